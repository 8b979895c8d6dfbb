/- A part. -/
import Derived.Test.YtfhejdojdajpmaaGreatDoorSa
set_option linter.all false
set_option maxRecDepth 100000
set_option maxHeartbeats 16000000
namespace Go.Abs
section
variable{f:Int}{F:Nat}
structure Let where
 kind:Int
 gate:Int
 aw:Int
 id:Int
 sign:Int
 over:Bool
 deriving DecidableEq
def Let.ps(l:Let):List PV:=[.int .i64 l.kind,.int .i64 l.gate,.int .i64 l.aw,.int .i64 l.id,.int .i64 l.sign,.bool l.over]
def Let.aG(l:Let):Bool:=l.kind==1
def Let.aB(l:Let):Bool:=l.kind==2
abbrev hU(ls:List Let):PV:=.sl (ls.map Let.ps)
abbrev cY(f:Int)(ls:List Let):V:=.agg [.p (.int .i64 f),.p (hU ls)]
abbrev n9(f:Int)(ls:List Let):List C:=[.p (.int .i64 f),.p (hU ls)]
abbrev vi(k:Int):V:=.one (.p (.int .i64 k))
abbrev vb(b:Bool):V:=.one (.p (.bool b))
abbrev ri(k:Int):RV:=.one (.p (.int .i64 k))
abbrev rb(k:Bool):RV:=.one (.p (.bool k))
abbrev ay(p:Let->Bool)(ls:List Let):Nat:=ls.countP p
theorem aN{α:Type}{ls:List α}{k:Nat}(h:k<ls.length):∃l,ls[k]?=some l:=⟨ls[k],by simp[h]⟩
theorem qS{p:Let->Bool}{ls:List Let}{k:Nat}{l:Let}(h:ls[k]?=some l)(hp:p l=true):ay p (ls.take (k+1))=ay p (ls.take k)+1:=by unfold ay;obtain⟨hk,rfl⟩:=aY.1 h;rw[afR hk,vv,List.countP_singleton,aE hp]
theorem iR{p:Let->Bool}{ls:List Let}{k:Nat}{l:Let}(h:ls[k]?=some l)(hp:p l=false):ay p (ls.take (k+1))=ay p (ls.take k):=by unfold ay;obtain⟨hk,rfl⟩:=aY.1 h;rw[afR hk,vv,List.countP_singleton,hp];rfl
theorem xv(p:Let->Bool)(ls:List Let)(k:Nat):ay p (ls.take k)<=k:=lf Ps (by rw[iF];exact Nat.min_le_left _ _)
theorem qt(p:Let->Bool)(ls:List Let):ay p ls<=ls.length:=Ps
theorem gE{ls:List Let}{k:Nat}{l:Let}(h:ls[k]?=some l):(ls.map Let.ps)[k]?=some l.ps:=by simp[h]
theorem wrap_add{a b:Nat}(h:a+b<=9223372036854775807):IntKind.i64.wrap ((a:Int)+(b:Int))=((a+b:Nat):Int):=wrap_small (n:=a+b) h
theorem qL{a:Nat}(h:2*a<=9223372036854775807):IntKind.i64.wrap (2*(a:Int))=((2*a:Nat):Int):=wrap_small (n:=2*a) h
theorem Pj{a b:Nat}(h:b<=a)(h2:a<=9223372036854775807):IntKind.i64.wrap ((a:Int)-(b:Int))=((a-b:Nat):Int):=by have:((a:Int)-(b:Int))=((a-b:Nat):Int):=aa;rw[this];exact wrap_small aa
theorem DB{a:Nat}(h:1<=a)(h2:a<=9223372036854775807):IntKind.i64.wrap ((a:Int)-1)=((a-1:Nat):Int):=Pj (b:=1) h h2
def VC(x y:Option (List PV×List Nat))(f:Nat):Option (PV×List Nat):=match x,y with
 |some (x,r),some (y,s)=>some (.fn f x y,r++s)
 |_,_=>none
theorem aqp{x y:List PV}{r s:List Nat}{f:Nat}:VC (some (x,r)) (some (y,s)) f=some (.fn f x y,r++s):=rfl
theorem aqt{aj:aA}{f:Nat}{a b:List C}:snap aj fM (.hfn f a b)=VC (collect (snap aj 5) a) (collect (snap aj 5) b) f:=by unfold fM;rw[snap];unfold VC;rfl
theorem aqu{aj:aA}{n id g off:Nat}:snap aj (n+1) (.ba id g off)=OW (aj id) (collect (snap aj n)) id g off:=by rw[snap];rfl
theorem aqv{aj:aA}{n id g z off len:Nat}:snap aj (n+1) (.hsl id g z off len)=OX (aj id) (collect (collect (snap aj n))) id g off len:=by rw[snap];rfl
theorem aH{b:Bool}(h:b=true:=by kernel_rfl):b=true:=h
theorem bc{f:Nat}{fn:aX}{args:List V}{r:RV}(hf:S.fns f=some fn)(h:W S .all fn.body (qT .all fn.results fun v aj=>fv aj v=some r) (qH args) zA)(hp:S.prim f args=none:=by rfl)(hl:args.length<=fn.ntmps:=by exact gj rfl):aJ S f args r:=af4 hp hf hl h
theorem dF:¬((2:Int)=0):=ae
theorem qK(a b:Nat):(a:Int).tmod b=((a%b:Nat):Int):=by rw[Int.tmod_eq_emod_of_nonneg aa];rfl
theorem ig(a:Nat):(a:Int).tmod 2=((a%2:Nat):Int):=qK a 2
theorem eL(a:Nat):(a:Int).tdiv 2=((a/2:Nat):Int):=by rw[afB aa];rfl
theorem dI{n:Nat}:¬((n:Int)<(n:Int)):=aa
theorem ps_len(l:Let):l.ps.length=6:=rfl
theorem ajS{aj:aA}{all:List Nat}:rU aj all []=some []:=rfl
attribute [go_sem] aqt aqp aqu aqv ajS
def mO(g:Int)(l:Let):Bool:=l.aG&&l.gate==g
def ke(g:Int)(l:Let):Bool:=l.aB&&l.id==g
theorem U0(f:Int)(ls:List Let)(hl:ls.length<=1000000):aJ S 109 [cY f ls] (ri (ay Let.aG ls)):=by
 refine bc c109 ?_;simp only[go_sem,i109];refine cS (fun k ak _=>ak 7=.one (.p (hU ls))/\ak 8=vi ls.length/\ak 9=vi k/\ak 3=vi (ay Let.aG (ls.take k))) 0 ls.length (bn _) ?_ ?_
 .simp only[go_sem];exact⟨rfl,rfl⟩
 rintro k ak aj hk ⟨h7,h8,h9,h3⟩
 by_cases au:k<ls.length
 .obtain⟨l,cH⟩:=aN au;have hi:=gE cH;have aL:((k:Int)<(ls.length:Int)):=aa;have hb:=xv (Let.aG) ls k;have w1:=bQ (n:=k) aa;have w2:=bQ (n:=ay (Let.aG) (ls.take k)) aa;cases hp:(l.kind==1) with
  |true=>have hc:=qS (p:=Let.aG) cH hp;simp only[go_sem,i109_l1,h3,h7,h8,h9,hi,Let.ps,aL,w1,w2,hp,hc];first|exact au|exact⟨au,rfl⟩
  |false=>have hc:=iR (p:=Let.aG) cH hp;simp only[go_sem,i109_l1,h3,h7,h8,h9,hi,Let.ps,aL,w1,hp,hc];first|exact au|exact⟨au,rfl⟩
 have:k=ls.length:=aa;subst this;rw[jf] at h3;simp only[go_sem,i109_l1,i109_r2,h3,h8,h9,dI]
theorem QH(f:Int)(ls:List Let)(hl:ls.length<=1000000):aJ S 75 [cY f ls] (ri (ay Let.aB ls)):=by
 refine bc c75 ?_;simp only[go_sem,i75];refine cS (fun k ak _=>ak 7=.one (.p (hU ls))/\ak 8=vi ls.length/\ak 9=vi k/\ak 3=vi (ay Let.aB (ls.take k))) 0 ls.length (bn _) ?_ ?_
 .simp only[go_sem];exact⟨rfl,rfl⟩
 rintro k ak aj hk ⟨h7,h8,h9,h3⟩
 by_cases au:k<ls.length
 .obtain⟨l,cH⟩:=aN au;have hi:=gE cH;have aL:((k:Int)<(ls.length:Int)):=aa;have hb:=xv (Let.aB) ls k;have w1:=bQ (n:=k) aa;have w2:=bQ (n:=ay (Let.aB) (ls.take k)) aa;cases hp:(l.kind==2) with
  |true=>have hc:=qS (p:=Let.aB) cH hp;simp only[go_sem,i75_l1,h3,h7,h8,h9,hi,Let.ps,aL,w1,w2,hp,hc];first|exact au|exact⟨au,rfl⟩
  |false=>have hc:=iR (p:=Let.aB) cH hp;simp only[go_sem,i75_l1,h3,h7,h8,h9,hi,Let.ps,aL,w1,hp,hc];first|exact au|exact⟨au,rfl⟩
 have:k=ls.length:=aa;subst this;rw[jf] at h3;simp only[go_sem,i75_l1,i75_r2,h3,h8,h9,dI]
theorem X1(f:Int)(ls:List Let)(hl:ls.length<=1000000):aJ S 110 [cY f ls] (ri ((ay Let.aB ls/2:Nat))):=by
 have hb:=qt Let.aB ls;have e1:IntKind.i64.wrap ((ay Let.aB ls:Int).tdiv 2)=((ay Let.aB ls/2:Nat):Int):=by
  have:(ay Let.aB ls:Int).tdiv 2=((ay Let.aB ls/2:Nat):Int):=by rw[afB aa];omega
  rw[this];exact wrap_small aa
 refine bc c110 ?_;simp only[go_sem,i110,s75,dJ (QH f ls hl),e1,(by decide:¬(2:Int)=0)]
theorem adC(f:Int)(ls:List Let)(hl:ls.length<=1000000):aJ S 22 [cY f ls] (ri (ay Let.aG ls)):=by
 refine bc c22 ?_;simp only[go_sem,i22];refine cS (fun k ak aj=>ak 1=.one (.ba 1408000000 1 0)/\aj 1408000000=(1,some (.var (n9 f ls)))/\ak 4=vi k/\ak 3=vi (ay Let.aG (ls.take k))) 0 ls.length (bn _) ?_ ?_
 .simp only[go_sem];first|exact⟨rfl,rfl⟩|exact⟨rfl,rfl,rfl⟩
 rintro k ak aj hk ⟨cQ,hB,jB,gM⟩
 by_cases au:k<ls.length
 .obtain⟨l,cH⟩:=aN au;have hi:=gE cH;have aL:((k:Int)<(ls.length:Int)):=aa;have hb:=xv (Let.aG) ls k;have w1:=bQ (n:=k) aa;have w2:=bQ (n:=ay (Let.aG) (ls.take k)) aa;cases hp:(l.kind==1) with
  |true=>have hc:=qS (p:=Let.aG) cH hp;simp only[go_sem,i22_l1,cQ,hB,jB,gM,hi,Let.ps,aL,w1,w2,hp,hc];first|exact au|exact⟨au,rfl⟩
  |false=>have hc:=iR (p:=Let.aG) cH hp;simp only[go_sem,i22_l1,cQ,hB,jB,gM,hi,Let.ps,aL,w1,hp,hc];first|exact au|exact⟨au,rfl⟩
 have:k=ls.length:=aa;subst this;rw[jf] at gM;simp only[go_sem,i22_l1,i22_r2,cQ,hB,jB,gM,dI]
theorem VU(f:Int)(ls:List Let)(hl:ls.length<=1000000):aJ S 21 [cY f ls] (ri (ay Let.aB ls)):=by
 refine bc c21 ?_;simp only[go_sem,i21];refine cS (fun k ak aj=>ak 1=.one (.ba 1344000000 1 0)/\aj 1344000000=(1,some (.var (n9 f ls)))/\ak 4=vi k/\ak 3=vi (ay Let.aB (ls.take k))) 0 ls.length (bn _) ?_ ?_
 .simp only[go_sem];first|exact⟨rfl,rfl⟩|exact⟨rfl,rfl,rfl⟩
 rintro k ak aj hk ⟨cQ,hB,jB,gM⟩
 by_cases au:k<ls.length
 .obtain⟨l,cH⟩:=aN au;have hi:=gE cH;have aL:((k:Int)<(ls.length:Int)):=aa;have hb:=xv (Let.aB) ls k;have w1:=bQ (n:=k) aa;have w2:=bQ (n:=ay (Let.aB) (ls.take k)) aa;cases hp:(l.kind==2) with
  |true=>have hc:=qS (p:=Let.aB) cH hp;simp only[go_sem,i21_l1,cQ,hB,jB,gM,hi,Let.ps,aL,w1,w2,hp,hc];first|exact au|exact⟨au,rfl⟩
  |false=>have hc:=iR (p:=Let.aB) cH hp;simp only[go_sem,i21_l1,cQ,hB,jB,gM,hi,Let.ps,aL,w1,hp,hc];first|exact au|exact⟨au,rfl⟩
 have:k=ls.length:=aa;subst this;rw[jf] at gM;simp only[go_sem,i21_l1,i21_r2,cQ,hB,jB,gM,dI]
theorem QI(f:Int)(ls:List Let)(hl:ls.length<=1000000):aJ S 25 [cY f ls] (ri ((ay Let.aB ls/2:Nat))):=by
 have hb:=qt Let.aB ls;have e1:IntKind.i64.wrap ((ay Let.aB ls:Int).tdiv 2)=((ay Let.aB ls/2:Nat):Int):=by
  have:(ay Let.aB ls:Int).tdiv 2=((ay Let.aB ls/2:Nat):Int):=by rw[afB aa];omega
  rw[this];exact wrap_small aa
 refine bc c25 ?_;simp only[go_sem,i25,s21,dJ (VU f ls hl),e1,(by decide:¬(2:Int)=0)]
theorem in_r(f:Int)(ls:List Let)(hl:ls.length<=1000000)(g:Int):aJ S 41 [cY f ls,vi g] (ri (ay (mO g) ls)):=by
 refine bc c41 ?_;simp only[go_sem,i41];refine cS (fun k ak aj=>ak 2=.one (.ba 2624000000 1 0)/\aj 2624000000=(1,some (.var (n9 f ls)))/\ak 6=vi k/\ak 5=vi (ay (mO g) (ls.take k))/\ak 1=vi g) 0 ls.length (bn _) ?_ ?_
 .simp only[go_sem];first|exact⟨rfl,rfl⟩|exact⟨rfl,rfl,rfl⟩
 rintro k ak aj hk ⟨cQ,hB,jB,gM,AU⟩
 by_cases au:k<ls.length
 .obtain⟨l,cH⟩:=aN au;have hi:=gE cH;have aL:((k:Int)<(ls.length:Int)):=aa;have hb:=xv ((mO g)) ls k;have w1:=bQ (n:=k) aa;have w2:=bQ (n:=ay ((mO g)) (ls.take k)) aa;cases hp:(l.kind==1) with
  |true=>
   cases hq:(l.gate==g) with
   |true=>have hc:=qS (p:=(mO g)) cH (by simp only[mO,Let.aG,hp,hq];rfl);simp only[go_sem,i41_l1,cQ,hB,jB,gM,hi,Let.ps,aL,w1,w2,AU,hp,hq,hc];first|exact au|exact⟨au,rfl⟩
   |false=>have hc:=iR (p:=(mO g)) cH (by simp only[mO,Let.aG,hp,hq];rfl);simp only[go_sem,i41_l1,cQ,hB,jB,gM,hi,Let.ps,aL,w1,AU,hp,hq,hc];first|exact au|exact⟨au,rfl⟩
  |false=>have hc:=iR (p:=(mO g)) cH (by simp only[mO,Let.aG,hp];rfl);simp only[go_sem,i41_l1,cQ,hB,jB,gM,hi,Let.ps,aL,w1,AU,hp,hc];first|exact au|exact⟨au,rfl⟩
 have:k=ls.length:=aa;subst this;rw[jf] at gM;simp only[go_sem,i41_l1,i41_r2,cQ,hB,jB,gM,dI]
theorem arc(f:Int)(ls:List Let)(hl:ls.length<=1000000)(g:Int):aJ S 42 [cY f ls,vi g] (ri (ay (ke g) ls)):=by
 refine bc c42 ?_;simp only[go_sem,i42];refine cS (fun k ak aj=>ak 2=.one (.ba 2688000000 1 0)/\aj 2688000000=(1,some (.var (n9 f ls)))/\ak 6=vi k/\ak 5=vi (ay (ke g) (ls.take k))/\ak 1=vi g) 0 ls.length (bn _) ?_ ?_
 .simp only[go_sem];first|exact⟨rfl,rfl⟩|exact⟨rfl,rfl,rfl⟩
 rintro k ak aj hk ⟨cQ,hB,jB,gM,AU⟩
 by_cases au:k<ls.length
 .obtain⟨l,cH⟩:=aN au;have hi:=gE cH;have aL:((k:Int)<(ls.length:Int)):=aa;have hb:=xv ((ke g)) ls k;have w1:=bQ (n:=k) aa;have w2:=bQ (n:=ay ((ke g)) (ls.take k)) aa;cases hp:(l.kind==2) with
  |true=>
   cases hq:(l.id==g) with
   |true=>have hc:=qS (p:=(ke g)) cH (by simp only[ke,Let.aB,hp,hq];rfl);simp only[go_sem,i42_l1,cQ,hB,jB,gM,hi,Let.ps,aL,w1,w2,AU,hp,hq,hc];first|exact au|exact⟨au,rfl⟩
   |false=>have hc:=iR (p:=(ke g)) cH (by simp only[ke,Let.aB,hp,hq];rfl);simp only[go_sem,i42_l1,cQ,hB,jB,gM,hi,Let.ps,aL,w1,AU,hp,hq,hc];first|exact au|exact⟨au,rfl⟩
  |false=>have hc:=iR (p:=(ke g)) cH (by simp only[ke,Let.aB,hp];rfl);simp only[go_sem,i42_l1,cQ,hB,jB,gM,hi,Let.ps,aL,w1,AU,hp,hc];first|exact au|exact⟨au,rfl⟩
 have:k=ls.length:=aa;subst this;rw[jf] at gM;simp only[go_sem,i42_l1,i42_r2,cQ,hB,jB,gM,dI]
def dn (ls:List Let)(i:Nat):Bool:=ay Let.aG (ls.take i)%2==0
theorem Jv(f:Int)(ls:List Let)(i:Nat)(hl:ls.length<=1000000)(xX:i<=ls.length):aJ S 81 [cY f ls,vi i] (rb (dn ls i)):=by
 refine bc c81 ?_;simp only[go_sem,i81];refine cS (fun k ak aj=>ak 1=vi i/\ak 2=.one (.ba 5184000000 1 0)/\aj 5184000000=(1,some (.var (n9 f ls)))/\ak 6=vi k/\ak 5=vi (ay Let.aG (ls.take k))) 0 i (bn _) ?_ ?_
 .simp only[go_sem];exact⟨rfl,rfl⟩
 rintro k ak aj hk ⟨h1,cQ,hB,jB,gM⟩
 have hb:=xv Let.aG ls k;by_cases au:k<i
 .obtain⟨l,cH⟩:=aN (ls:=ls) (k:=k) aa;have hi:=gE cH;have aL:((k:Int)<(i:Int)):=aa;have w1:=bQ (n:=k) aa;have w2:=bQ (n:=ay Let.aG (ls.take k)) aa;cases hp:(l.kind==1) with
  |true=>have hc:=qS (p:=Let.aG) cH hp;simp only[go_sem,i81_l1,h1,cQ,hB,jB,gM,hi,Let.ps,aL,w1,w2,hp,hc];exact au
  |false=>have hc:=iR (p:=Let.aG) cH hp;simp only[go_sem,i81_l1,h1,cQ,hB,jB,gM,hi,Let.ps,aL,w1,hp,hc];exact au
 have:k=i:=aa;subst this;have e2:((((ay Let.aG (ls.take k))%2:Nat):Int)==0)=dn ls k:=by
  unfold dn;cases h:(ay Let.aG (ls.take k)%2==0) with
  |true=>simp at h ⊢;omega
  |false=>simp at h ⊢;omega
 simp only[go_sem,i81_l1,i81_r2,h1,jB,gM,dI,dF,ig,e2]
theorem ams(a b:Let):aJ S 79 [.agg (a.ps.map .p),.agg (b.ps.map .p)] (rb (decide (a.gate<b.gate)||(a.gate==b.gate&&decide (a.aw<b.aw)))):=by
 refine bc c79 ?_;by_cases h1:a.gate<b.gate
 .simp only[go_sem,i79,Let.ps,h1]
 cases h2:(a.gate==b.gate) with
 |true=>simp only[go_sem,i79,Let.ps,h1,h2]
 |false=>simp only[go_sem,i79,Let.ps,h1,h2]
def dw(n i:Nat)(fw:Bool):Nat:=if fw then 2*i else 2*((i+n-1)%n)+1
theorem Qa(f:Int)(ls:List Let)(i:Nat)(fw:Bool)(hl:ls.length<=1000000)(hi:i<ls.length):aJ S 80 [cY f ls,vi i,vb fw] (ri (dw ls.length i fw)):=by
 refine bc c80 ?_;cases fw with
 |true=>have e:IntKind.i64.wrap (2*(i:Int))=((2*i:Nat):Int):=wrap_small (n:=2*i) aa;simp only[go_sem,i80,e,dw]
 |false=>
  have w1:IntKind.i64.wrap ((i:Int)+(ls.length:Int))=((i+ls.length:Nat):Int):=wrap_small (n:=i+ls.length) aa;have w2:IntKind.i64.wrap (((i+ls.length:Nat):Int)-1)=((i+ls.length-1:Nat):Int):=by have:(((i+ls.length:Nat):Int)-1)=((i+ls.length-1:Nat):Int):=aa;rw[this];exact wrap_small aa
  have e1:=qK (i+ls.length-1) ls.length;have hm:=dK (i+ls.length-1) (show 0<ls.length by omega);have w3:IntKind.i64.wrap (2*(((i+ls.length-1)%ls.length:Nat):Int))=((2*((i+ls.length-1)%ls.length):Nat):Int):=wrap_small (n:=2*((i+ls.length-1)%ls.length)) aa;have w4:=bQ (n:=2*((i+ls.length-1)%ls.length)) aa;have hz:¬((ls.length:Int)=0):=aa;simp only[go_sem,i80,w1,w2,e1,w3,w4,hz,dw]
def yq(ls:List Let)(i j:Nat):Bool:=j !=i&&(match ls[j]? with|some l=>l.aB&&l.id==((ls[i]?).map Let.id).getD 0|none=>false)
def fh(ls:List Let)(i:Nat):Nat:=((List.range ls.length).find? (yq ls i)).getD i
theorem AO{p:Nat->Bool}:∀ {n k:Nat},k<n->(∀j,j<k->p j=false)->p k=true->(List.range n).find? p=some k:=by intro n k hk hn hp;exact List.find?_range_eq_some.2 ⟨hp,by simpa using hk,fun j hj=>by simp[hn j hj]⟩
theorem Gu{p:Nat->Bool}{n:Nat}(hn:∀j,j<n->p j=false):(List.range n).find? p=none:=by rw[IM];intro x hx;simp[hn x (by simpa using hx)]
theorem ant(f:Int)(ls:List Let)(i:Nat)(hl:ls.length<=1000000)(xX:i<ls.length):aJ S 82 [cY f ls,vi i] (ri (fh ls i)):=by
 obtain⟨li,sX⟩:=aN xX;have fQ:=gE sX;have key:∀j l,ls[j]?=some l->yq ls i j=(j !=i&&(l.aB&&l.id==li.id)):=fun j l h=>by simp[yq,h,sX]
 refine bc c82 ?_;simp only[go_sem,i82];refine cS (fun k ak aj=>ak 1=vi i/\ak 2=.one (.ba 5248000000 1 0)/\aj 5248000000=(1,some (.var (n9 f ls)))/\ak 5=vi k/\ ∀j,j<k->yq ls i j=false) 0 ls.length (bn _) ?_ ?_
 .simp only[go_sem];exact⟨rfl,fun j h=>absurd h (mv j)⟩
 rintro k ak aj hk ⟨h1,cQ,hB,jB,hn⟩
 by_cases au:k<ls.length
 .obtain⟨l,cH⟩:=aN au;have hi:=gE cH;have aL:((k:Int)<(ls.length:Int)):=aa;have w1:=bQ (n:=k) aa;have Cy:=key k l cH;have step:yq ls i k=false->∀j,j<k+1->yq ls i j=false:=fun h j hj=>by
   rcases kB.1 hj with h2|rfl
   .exact hn j h2
   exact h
  by_cases hki:k=i
  .have hb:((k:Int)!=(i:Int))=false:=by simp[hki]
   have hs:=step (by rw[Cy];simp[hki]);simp only[go_sem,i82_l1,h1,cQ,hB,jB,aL,w1,hb];exact⟨ah,au,hs⟩
  have hb:((k:Int)!=(i:Int))=true:=by simp;omega
  have aZ:(k !=i)=true:=by simp[hki]
  cases hp:(l.kind==2) with
  |false=>have hs:=step (by rw[Cy,aZ,Let.aB,hp];rfl);simp only[go_sem,i82_l1,h1,cQ,hB,jB,hi,Let.ps,aL,w1,hb,hp];exact⟨ah,au,hs⟩
  |true=>
   cases hq:(l.id==li.id) with
   |false=>have hs:=step (by rw[Cy,aZ,Let.aB,hp,hq];rfl);simp only[go_sem,i82_l1,h1,cQ,hB,jB,hi,fQ,Let.ps,aL,w1,hb,hp,hq];exact⟨ah,au,hs⟩
   |true=>
    have hf:fh ls i=k:=by unfold fh;rw[AO au hn (by rw[Cy,aZ,Let.aB,hp,hq];rfl)];rfl
    simp only[go_sem,i82_l1,h1,cQ,hB,jB,hi,fQ,Let.ps,aL,hb,hp,hq,hf];show nM _ _ _=true
    kernel_rfl
 have:k=ls.length:=aa;subst this;have hf:fh ls i=i:=by unfold fh;rw[Gu hn];rfl
 simp only[go_sem,i82_l1,i82_r2,h1,cQ,hB,jB,dI,hf]
abbrev rq(l:List Nat):PV:=.sl (l.map fun n:Nat=>[.int .i64 (n:Int)])
theorem at_r(l:List Nat)(n k0:Nat)(hl:l.length<=1000000)(sW:l[k0]?=some n)(hn:∀j,j<k0->l[j]? ≠some n):aJ S 83 [.one (.p (rq l)),vi n] (ri k0):=by
 have hk0l:=(aY.1 sW).1;refine bc c83 ?_;simp only[go_sem,i83];refine cS (fun k ak aj=>ak 0=.one (.p (rq l))/\ak 1=vi n/\ak 5=vi k) 0 k0 (bn _) ?_ ?_
 .simp only[go_sem];rfl
 rintro k ak aj hk ⟨h0,h1,h5⟩
 have aL:((k:Int)<(l.length:Int)):=aa;have w1:=bQ (n:=k) aa;obtain⟨m,hm⟩:=aN (ls:=l) (k:=k) aa;have hi:(l.map fun n:Nat=>[PV.int .i64 (n:Int)])[k]?=some [.int .i64 (m:Int)]:=by simp[hm]
 by_cases au:k<k0
 .have aM:((m:Int)==(n:Int))=false:=by
   have:m≠n:=fun e=>hn k au (by rw[hm,e]);simp;omega
  simp only[go_sem,i83_l1,h0,h1,h5,aL,w1,hi,aM];exact au
 have:k=k0:=aa;subst this;have e:m=n:=by rw[hm] at sW;exact oZ sW
 subst e;simp only[go_sem,i83_l1,h0,h1,h5,aL,hi]
abbrev Bk(l:Let):V:=.agg [.p (.int .i64 l.kind),.p (.int .i64 l.gate),.p (.int .i64 l.aw),.p (.int .i64 l.id),.p (.int .i64 l.sign),.p (.bool l.over)]
def ET(a b:Let):Bool:=decide (a.gate<b.gate)||(a.gate==b.gate&&decide (a.aw<b.aw))
theorem amt(a b:Let):aJ S 79 [Bk a,Bk b] (rb (ET a b)):=ams a b
abbrev nP(o:List Nat):List (List PV):=o.map fun n:Nat=>[PV.int .i64 (n:Int)]
theorem ia{o:List Nat}{k n:Nat}(h:o[k]?=some n):(nP o)[k]?=some [.int .i64 (n:Int)]:=by simp[h]
def zq(ls:List Let)(i j:Nat):Bool:=match ls[j]?,ls[i]? with
 |some a,some b=>ET a b
 |_,_=>false
def yl(ls:List Let)(o:List Nat)(i:Nat):List Nat:=o.take (o.takeWhile (zq ls i)).length++i::o.drop (o.takeWhile (zq ls i)).length
def yL(ls:List Let)(o:List Nat)(i:Nat):List Nat:=match ls[i]? with
 |some l=>if l.aG then yl ls o i else o
 |none=>o
def aC(ls:List Let):List Nat:=(List.range ls.length).foldl (yL ls) []
def mD(ls:List Let)(k:Nat):List Nat:=(List.range k).foldl (yL ls) []
theorem F3(ls:List Let)(k:Nat):mD ls (k+1)=yL ls (mD ls k) k:=by unfold mD;rw[rH,Mb];rfl
theorem ag2{ls:List Let}{o:List Nat}{i:Nat}{x:Nat}(h:x∈yL ls o i):x∈o\/x=i:=by
 unfold yL at h;split at h
 .split at h
  .unfold yl at h;rcases fi.1 h with h|h
   .exact .inl (vC h)
   rcases dh.1 h with h|h
   .exact .inr h
   exact .inl (uB h)
  exact .inl h
 exact .inl h
theorem Mx{ls:List Let}:∀ {k x:Nat},x∈mD ls k->x<k:=by
 intro k
 induction k with
 |zero=>intro x h;simp[mD] at h
 |succ k ih=>
  intro x h;rw[F3] at h;rcases ag2 h with h|h
  .have:=ih h;omega
  omega
theorem qQ(ls:List Let):∀k,(mD ls k).length<=k:=by
 intro k
 induction k with
 |zero=>simp[mD]
 |succ k ih=>
  rw[F3];unfold yL;split
  .split
   .unfold yl;simp only[fH,dp,iF,tx];omega
   omega
  omega
def Dh(site:Nat)(o:List Nat)(v:V)(aj:aA):Prop:=(o=[]/\v=.one (.p .nils))\/(o≠[]/\ ∃g,v=.one (.hsl site g 1 0 o.length)/\aj site=(g,some (.arr 3 1 (nP o))))
theorem ag4{o:List Nat}{i K:Nat}{ak:Env}{aj:aA}{Q:dS}(ho:Dh 2752576640 o (ak 3) aj)(h4:ak 4=vi i)(h5:ak 5=vi K)(hK:K<=o.length)(hl:o.length<=1000000)
  (hq:∀aI ao,aI 1=ak 1->aI 4=ak 4->ao 2752000000=aj 2752000000->Dh 2752576640 (o.take K++i::o.drop K) (aI 3) ao->Q .normal aI ao):
  W S .all i43_r2 Q ak aj:=by
 rcases ho with ⟨rfl,h3⟩|⟨ho,g,h3,hC⟩
 .have hK0:K=0:=by simpa using hK
  subst hK0;simp only[go_sem,i43_r2,h3,h4,h5,eO,eC];refine⟨ah,hq _ _ ?_ ?_ ?_ (.inr ⟨af,(aj 2752576640).1+1,?_,?_⟩)⟩;all_goals simp only[go_sem]
 have jC:∀n:Nat,n<=1000001->n*8<=140737488355328:=fun n hn=>aa;by_cases hK0:K=0
 .subst hK0;have ht:List.take o.length (nP o)=nP o:=eY af;have jT:=jC (1+o.length) aa;simp only[go_sem,i43_r2,h3,h4,h5,hC,ht,jT,eO,eC];refine⟨ah,hq _ _ ?_ ?_ ?_ (.inr ⟨af,g+1,?_,?_⟩)⟩;all_goals simp only[go_sem]
  simp;omega
 have ht:(List.take K (nP o)).length=K:=by simp;omega
 have htt:List.take K (List.take K (nP o))=List.take K (nP o):=by rw[Mf,Nat.min_self]
 have fS:List.take (K+1) (List.take K (nP o)++[[PV.int .i64 (i:Int)]])=List.take K (nP o)++[[PV.int .i64 (i:Int)]]:=eY (by simp;omega);have htd:List.take (o.length-K) (List.drop K (nP o))=List.drop K (nP o):=eY af;have hld:(List.drop K (nP o)).length=o.length-K:=af;have nA:(List.take K (nP o)++[[PV.int .i64 (i:Int)]]).length=K+1:=by simp;omega
 have jT:=jC K aa;have rj:=jC (K+1) aa;have hr3:=jC (K+1+(o.length-K)) aa;have hle:K+(o.length-K)<=o.length:=aa;simp only[go_sem,i43_r2,h3,h4,h5,hC,hK,ht,hK0,jT,rj,hr3,htt,fS,htd,hld,nA,hle,eO,eC];refine⟨ah,hq _ _ ?_ ?_ ?_ (.inr ⟨af,g+1,?_,?_⟩)⟩;all_goals simp only[go_sem]
 .simp;omega
 simp
theorem aq4{α:Type}{p:α->Bool}{l:List α}{K:Nat}(hK:K<=l.length)(h1:∀j x,j<K->l[j]?=some x->p x=true)(h2:∀x,l[K]?=some x->p x=false):(l.takeWhile p).length=K:=by
 induction l generalizing K with
 |nil=>simp at hK ⊢;omega
 |cons a l ih=>
  cases K with
  |zero=>have:=h2 a rfl;simp[List.takeWhile,this]
  |succ K=>have:=h1 0 a aa rfl;simp only[List.takeWhile,this,dp];rw[ih (by simpa using hK) (fun j x hj hx=>h1 (j+1) x aa (by simpa using hx)) (fun x hx=>h2 x (by simpa using hx))]
theorem ag7{ls:List Let}{f:Int}{o:List Nat}{i:Nat}{li:Let}{ak:Env}{aj:aA}{Q:dS}(ho:Dh 2752576640 o (ak 3) aj)(h1:ak 1=.one (.ba 2752000000 1 0))(hB:aj 2752000000=(1,some (.var (n9 f ls))))(h4:ak 4=vi i)(h5:ak 5=vi 0)
  (sX:ls[i]?=some li) (au:∀x∈o,x<ls.length) (hl:o.length<=1000000)
  (hq:∀aI ao,aI 1=ak 1->aI 4=ak 4->ao 2752000000=aj 2752000000->Dh 2752576640 (yl ls o i) (aI 3) ao->Q .normal aI ao):
  W S .all (.loop i43_l1) (pF 2 (wU S .all i43_r2 Q)) ak aj:=by
 have fQ:=gE sX;refine cS (fun k aI ao=>aI 1=ak 1/\aI 4=ak 4/\aI 3=ak 3/\ao=aj/\aI 5=vi k/\ ∀j x,j<k->o[j]?=some x->zq ls i x=true) 0 o.length (bn _) ?_ ?_
 .exact⟨rfl,rfl,rfl,rfl,h5,fun j x hj=>absurd hj (mv j)⟩
 rintro k aI ao hk ⟨jK,vR,qV,rfl,Cl,hp⟩
 rw[h1] at jK;rw[h4] at vR;have fin:∀e:Env,e 1=aI 1->e 4=aI 4->e 3=aI 3->e 5=aI 5->(∀x,o[k]?=some x->zq ls i x=false)->W S .all i43_r2 Q e ao:=by
  intro e e1 e4 e3 e5 nz;have hK:=aq4 hk hp nz;have jS:Dh 2752576640 o (e 3) ao:=by rw[e3,qV];exact ho
  refine ag4 (i:=i) (K:=k) jS (by rw[e4,vR]) (by rw[e5,Cl]) hk hl ?_;intro cP bd q1 q2 q3 q4;refine hq cP bd (by rw[q1,e1,jK,h1]) (by rw[q2,e4,vR,h4]) q3 ?_;unfold yl;rw[hK];exact q4
 by_cases cH:k<o.length
 .obtain⟨x,hx⟩:=aN cH;have yj:=au x (aW hx);obtain⟨lx,hlx⟩:=aN yj;have iJ:=gE hlx;have wA:=ia hx;have aL:((k:Int)<(o.length:Int)):=aa;have w1:=bQ (n:=k) aa;have aaY:zq ls i x=ET lx li:=by simp[zq,hlx,sX]
  have Ol:=amt lx li;rcases ho with ⟨rfl,_⟩|⟨ho,g,h3,hC⟩
  .simp at cH
  rw[h3] at qV;cases hb:ET lx li with
  |true=>
   rw[hb] at Ol;simp only[go_sem,i43_l1,h1,h3,h4,jK,qV,vR,Cl,hB,hC,aL,wA,iJ,fQ,Let.ps,cH,w1,s79,kJ Ol];refine⟨ah,fun j y hj hy=>?_⟩;rcases kB.1 hj with hj|rfl
   .exact hp j y hj hy
   rw[hx] at hy;cases hy;rw[aaY,hb]
  |false=>rw[hb] at Ol;simp only[go_sem,i43_l1,jK,qV,vR,Cl,hB,hC,aL,wA,iJ,fQ,Let.ps,cH,s79,kJ Ol];refine⟨ah,fin _ ?_ ?_ ?_ ?_ (fun y hy=>by rw[hx] at hy;cases hy;rw[aaY,hb])⟩;all_goals simp only[go_sem,jK,qV,vR,Cl]
 have:k=o.length:=aa;subst this;have dm:∀x,o[o.length]?=some x->zq ls i x=false:=fun x hx=>by simp at hx
 rcases ho with ⟨rfl,h3⟩|⟨ho,g,h3,hC⟩
 .rw[h3] at qV;simp only[go_sem,i43_l1,qV,Cl,dI];refine⟨ah,fin _ ?_ ?_ ?_ ?_ dm⟩;all_goals simp only[go_sem,jK,qV,vR,Cl]
 rw[h3] at qV;simp only[go_sem,i43_l1,qV,Cl,dI];refine⟨ah,fin _ ?_ ?_ ?_ ?_ dm⟩;all_goals simp only[go_sem,jK,qV,vR,Cl]
theorem alL(ls:List Let)(o:List Nat)(i:Nat):(yl ls o i).length=o.length+1:=by unfold yl;simp only[fH,dp,iF,tx];have:=(List.takeWhile_sublist (zq ls i) (l:=o)).length_le;omega
theorem Fa{aj:aA}{id g z len ty:Nat}{es:List (List PV)}(h:aj id=(g,some (.arr ty z es)))(hl:len=es.length):fv aj (.one (.hsl id g z 0 len))=some (.one (.own ty z es)):=by subst hl;simp only[fv,ll,jx,iY,fm,h,cA,and_self,if_true,jf];rfl
def I8(o:List Nat):RC:=if o=[] then .p .nils else .own 3 1 (nP o)
theorem Xj(f:Int)(ls:List Let)(hl:ls.length<=1000000):aJ S 43 [cY f ls] (.one (I8 (aC ls))):=by
 refine bc c43 ?_;simp only[go_sem,i43];refine cS (fun k ak aj=>ak 1=.one (.ba 2752000000 1 0)/\aj 2752000000=(1,some (.var (n9 f ls)))/\ak 4=vi k/\Dh 2752576640 (mD ls k) (ak 3) aj) 0 ls.length (bn _) ?_ ?_
 .simp only[go_sem];exact⟨rfl,.inl ⟨rfl,rfl⟩⟩
 rintro k ak aj hk ⟨h1,hB,h4,ho⟩
 have dN:=qQ ls k;by_cases au:k<ls.length
 .obtain⟨l,cH⟩:=aN au;have hi:=gE cH;have aL:((k:Int)<(ls.length:Int)):=aa;have w1:=bQ (n:=k) aa;have hs:=F3 ls k;unfold yL at hs;rw[cH] at hs;cases hp:(l.kind==1) with
  |false=>
   have mh:(l.kind !=1)=true:=by simp[bne,hp]
   simp only[Let.aG,hp] at hs;have hs:mD ls (k+1)=mD ls k:=hs;simp only[go_sem,i43_l4,i43_r3,h1,hB,h4,hi,Let.ps,aL,mh,w1,hs,au];rcases ho with ⟨e,h3⟩|⟨ho,g,h3,hC⟩
   .exact .inl ⟨e,by simp only[go_sem,h3]⟩
   exact .inr ⟨ho,g,by simp only[go_sem,h3],by simp only[go_sem,hC]⟩
  |true=>
   have mh:(l.kind !=1)=false:=by simp[bne,hp]
   simp only[Let.aG,hp] at hs;have hs:mD ls (k+1)=yl ls (mD ls k) k:=hs;simp only[go_sem,i43_l4,h1,hB,h4,hi,Let.ps,aL,mh];refine ag7 (ls:=ls) (f:=f) (o:=mD ls k) (i:=k) ?_ ?_ ?_ ?_ ?_ cH (fun x hx=>Nat.lt_trans (Mx hx) au) aa ?_
   .rcases ho with ⟨e,h3⟩|⟨ho,g,h3,hC⟩
    .exact .inl ⟨e,by simp only[go_sem,h3]⟩
    exact .inr ⟨ho,g,by simp only[go_sem,h3],by simp only[go_sem,hC]⟩
   .simp only[go_sem,h1]
   .simp only[go_sem,hB]
   .simp only[go_sem,h4]
   .rfl
   intro aI ao q1 q2 q3 q4;simp only[go_sem,h1,h4,hB] at q1 q2 q3;simp only[go_sem,i43_r3,q1,q2,q3,w1,hs,au];rcases q4 with ⟨e,h3⟩|⟨ho,g,h3,hC⟩
   .exact .inl ⟨e,by simp only[go_sem,h3]⟩
   exact .inr ⟨ho,g,by simp only[go_sem,h3],by simp only[go_sem,hC]⟩
 have:k=ls.length:=aa;subst this;have he:aC ls=mD ls ls.length:=rfl;rw[<- he] at ho;rcases ho with ⟨e,h3⟩|⟨ho,g,h3,hC⟩
 .simp only[go_sem,i43_l4,i43_r5,h1,hB,h3,h4,dI,I8,e]
 simp only[go_sem,i43_l4,i43_r5,h1,hB,h3,h4,dI,I8,ho];exact Fa hC af
def fN(ls:List Let)(ax:List Nat)(d:Nat):Nat:=
 if 2*ls.length<=d then
  if d%2=0 then dw ls.length (ax.getD (((d-2*ls.length)/2+1)%ax.length) 0) (!dn ls (ax.getD (((d-2*ls.length)/2+1)%ax.length) 0))
  else dw ls.length (ax.getD ((d-2*ls.length)/2) 0) (dn ls (ax.getD ((d-2*ls.length)/2) 0))
 else
  let fw:=d%2==0
  let v:=if fw then (d/2+1)%ls.length else d/2
  match ls[v]? with
  |none=>0
  |some l=>if l.kind==2 then dw ls.length (fh ls v) (fw==(l.over==(l.sign==1)))
   else if dn ls v==fw then 2*ls.length+2*ax.idxOf v else 2*ls.length+2*((ax.idxOf v+ax.length-1)%ax.length)+1
theorem ads{ls:List Let}{i:Nat}(hi:i<ls.length):fh ls i<ls.length:=by
 unfold fh;cases h:(List.range ls.length).find? (yq ls i) with
 |none=>exact hi
 |some k=>
  have:=IT h
  simpa using this
theorem FY{n i:Nat}{fw:Bool}(hi:i<n):dw n i fw<2*n:=by unfold dw;have:=dK (i+n-1) (show 0<n by omega);split<;>omega
theorem O8{ls:List Let}{ax:List Nat}{d:Nat}(iT:∀x∈ax,x<ls.length)(hp:∀v l,ls[v]?=some l->(l.kind==2)=false->v∈ax)(hd:d<2*ls.length+2*ax.length):fN ls ax d<2*ls.length+2*ax.length:=by
 have A8:∀k,k<ax.length->ax.getD k 0<ls.length:=fun k hk=>by obtain⟨x,hx⟩:=aN hk;rw[cU,hx];exact iT x (aW hx)
 unfold fN;by_cases h:2*ls.length<=d
 .rw[aE h];have hm:=dK ((d-2*ls.length)/2+1) (show 0<ax.length by omega);by_cases h2:d%2=0
  .rw[aE h2];exact BO (FY (A8 _ hm)) aa
  rw[aD h2];exact BO (FY (A8 _ aa)) aa
 rw[aD h];have hn:0<ls.length:=aa;have hv:(if (d%2==0)=true then (d/2+1)%ls.length else d/2)<ls.length:=by
  split
  .exact dK _ hn
  omega
 simp only;generalize (if (d%2==0)=true then (d/2+1)%ls.length else d/2)=v at hv;obtain⟨l,hl⟩:=aN hv;rw[hl];simp only;by_cases hk:(l.kind==2)=true
 .rw[aE hk];exact BO (FY (ads hv)) aa
 rw[aD hk];have j7:=hp v l hl (by simpa using hk);have KA:ax.idxOf v<ax.length:=afI.2 j7;have hm:=dK (ax.idxOf v+ax.length-1) (show 0<ax.length by omega);split<;>omega
theorem alx{ax:List Nat}{v:Nat}:∀j,j<ax.idxOf v->ax[j]? ≠some v:=by
 induction ax with
 |nil=>intro j h;simp at h
 |cons a ax ih=>
  intro j h e;rw[List.idxOf_cons] at h;by_cases ha:a=v
  .simp[ha] at h
  have hb:(a==v)=false:=by simpa using ha
  rw[hb] at h;cases j with
  |zero=>simp at e;exact ha e
  |succ j=>exact ih j (by simp at h;omega) (by simpa using e)
theorem abe{ax:List Nat}{v:Nat}(h:v∈ax):ax[ax.idxOf v]?=some v:=by have hl:ax.idxOf v<ax.length:=afI.2 h;rw[nU hl,List.getElem_idxOf hl]
theorem arw(f:Int)(ls:List Let)(ax:List Nat)(d:Nat)(hl:ls.length<=1000000)(fO:ax.length<=1000000)(iT:∀x∈ax,x<ls.length)(hp:∀v l,ls[v]?=some l->(l.kind==2)=false->v∈ax)
  (hd:d<2*ls.length+2*ax.length):aJ S 44 [cY f ls,.one (.p (rq ax)),vi d] (ri (fN ls ax d)):=by
 have m1:IntKind.i64.wrap (2*(ls.length:Int))=((2*ls.length:Nat):Int):=wrap_small (n:=2*ls.length) aa;unfold fN;by_cases h:2*ls.length<=d
 .rw[aE h];refine bc c44 ?_;have h':((2*ls.length:Nat):Int)<=(d:Int):=aa;have m2:IntKind.i64.wrap ((d:Int)-((2*ls.length:Nat):Int))=((d-2*ls.length:Nat):Int):=by
   have:((d:Int)-((2*ls.length:Nat):Int))=((d-2*ls.length:Nat):Int):=aa;rw[this];exact wrap_small aa
  have m3:=wrap_small (n:=(d-2*ls.length)/2) aa;have hm:=dK ((d-2*ls.length)/2+1) (show 0<ax.length by omega);have pN:¬((ax.length:Int)=0):=aa;by_cases h2:d%2=0
  .rw[aE h2];have m4:=bQ (n:=(d-2*ls.length)/2) aa;have iS:(((d%2:Nat):Int)==0)=true:=by simp[h2]
   have m5:=qK ((d-2*ls.length)/2+1) ax.length;obtain⟨v,hv⟩:=aN hm;have oG:ax.getD (((d-2*ls.length)/2+1)%ax.length) 0=v:=by rw[cU,hv];rfl
   rw[oG];have qF:=iT v (aW hv);have pO:=ia hv;have pd:=Jv f ls v hl aa;have pa:=Qa f ls v (!dn ls v) hl qF;simp only[go_sem,i44,m1,m2,m3,m4,m5,h',iS,pO,pN,ig,eL,dF,s81,s80,kJ pd,gR pa];exact aH
  rw[aD h2];have iS:(((d%2:Nat):Int)==0)=false:=by simp;omega
  obtain⟨v,hv⟩:=aN (ls:=ax) (k:=(d-2*ls.length)/2) aa;have oG:ax.getD ((d-2*ls.length)/2) 0=v:=by rw[cU,hv];rfl
  rw[oG];have qF:=iT v (aW hv);have pO:=ia hv;have pd:=Jv f ls v hl aa;have pa:=Qa f ls v (dn ls v) hl qF;simp only[go_sem,i44,m1,m2,m3,h',iS,pO,ig,eL,dF,s81,s80,kJ pd,gR pa];exact aH
 rw[aD h];have h':¬(((2*ls.length:Nat):Int)<=(d:Int)):=aa;have m3:=wrap_small (n:=d/2) aa;have fP:¬((ls.length:Int)=0):=aa;have pN:=dK (d/2+1) (show 0<ls.length by omega);have m4:=bQ (n:=d/2) aa;have m5:=qK (d/2+1) ls.length;have body:∀v:Nat,v<ls.length->∀fw:Bool,v=(if fw then (d/2+1)%ls.length else d/2)->(d%2==0)=fw->(((d%2:Nat):Int)==0)=fw->aJ S 44 [cY f ls,.one (.p (rq ax)),vi d] (ri ((match ls[v]? with
   |none=>0
   |some l=>if l.kind==2 then dw ls.length (fh ls v) (fw==(l.over==(l.sign==1)))
    else if dn ls v==fw then 2*ls.length+2*ax.idxOf v else 2*ls.length+2*((ax.idxOf v+ax.length-1)%ax.length)+1:Nat):Int)):=by
  intro v hv fw eK wh pL;obtain⟨l,mK⟩:=aN hv;have fR:=gE mK;rw[mK];simp only;refine bc c44 ?_;cases hk:(l.kind==2) with
  |true=>
   have po:=ant f ls v hl hv;have pa:=Qa f ls (fh ls v) (fw==(l.over==(l.sign==1))) hl (ads hv);cases fw with
   |true=>have eK:v=(d/2+1)%ls.length:=eK;rw[eK] at fR po pa ⊢;simp only[go_sem,i44,m1,m3,m4,m5,h',pL,fR,Let.ps,fP,hk,ig,eL,dF,s82,s80,gR po,gR pa];exact aH
   |false=>have eK:v=d/2:=eK;rw[eK] at fR po pa ⊢;simp only[go_sem,i44,m1,m3,h',pL,fR,Let.ps,hk,ig,eL,dF,s82,s80,gR po,gR pa];exact aH
  |false=>
   have j7:=hp v l mK hk;have KA:ax.idxOf v<ax.length:=afI.2 j7;have pat:=at_r ax v (ax.idxOf v) fO (abe j7) alx;have pd:=Jv f ls v hl aa;have KE:¬((ax.length:Int)=0):=aa;have u9:=dK (ax.idxOf v+ax.length-1) (show 0<ax.length by omega);have n1:=qL (a:=ax.idxOf v) aa;have n2:=wrap_add (a:=2*ls.length) (b:=2*ax.idxOf v) aa;have n3:=wrap_add (a:=ax.idxOf v) (b:=ax.length) aa;have n4:=DB (a:=ax.idxOf v+ax.length) aa aa;have n5:=qK (ax.idxOf v+ax.length-1) ax.length;have n6:=qL (a:=(ax.idxOf v+ax.length-1)%ax.length) aa;have n7:=wrap_add (a:=2*ls.length) (b:=2*((ax.idxOf v+ax.length-1)%ax.length)) aa;have n8:=bQ (n:=2*ls.length+2*((ax.idxOf v+ax.length-1)%ax.length)) aa;cases fw with
   |true=>
    have eK:v=(d/2+1)%ls.length:=eK;cases dV:dn ls v with
    |true=>rw[dV] at pd;subst eK;simp only[go_sem,i44,m1,m3,m4,m5,h',pL,fR,Let.ps,fP,hk,ig,eL,dF,s83,s81,dJ pat,cq pd,n1,n2]
    |false=>rw[dV] at pd;subst eK;simp only[go_sem,i44,m1,m3,m4,m5,h',pL,fR,Let.ps,fP,hk,ig,eL,dF,s83,s81,dJ pat,cq pd,n3,n4,n5,n6,n7,n8,KE]
   |false=>
    have eK:v=d/2:=eK;cases dV:dn ls v with
    |true=>rw[dV] at pd;subst eK;simp only[go_sem,i44,m1,m3,h',pL,fR,Let.ps,hk,ig,eL,dF,s83,s81,dJ pat,cq pd,n3,n4,n5,n6,n7,n8,KE]
    |false=>rw[dV] at pd;subst eK;simp only[go_sem,i44,m1,m3,h',pL,fR,Let.ps,hk,ig,eL,dF,s83,s81,dJ pat,cq pd,n1,n2]
 have qF:(if (d%2==0)=true then (d/2+1)%ls.length else d/2)<ls.length:=by
  split
  .exact pN
  omega
 have:=body _ qF (d%2==0) rfl rfl (by cases hq:(d%2==0)<;>simp at hq ⊢ <;>omega);exact this
abbrev bP(o:List Bool):List (List PV):=o.map fun b:Bool=>[PV.bool b]
theorem qo{o:List Bool}{k:Nat}{b:Bool}(h:o[k]?=some b):(bP o)[k]?=some [.bool b]:=by simp[h]
theorem F4(o:List Bool)(k:Nat)(b:Bool):(bP o).set k [.bool b]=bP (o.set k b):=by simp[zX]
def eD(next:Nat->Nat):Nat->Nat->List Bool->List Nat×List Bool
 |0,_,seen=>([],seen)
 |k+1,x,seen=>if seen.getD x true then ([],seen) else (x::(eD next k (next x) (seen.set x true)).1,(eD next k (next x) (seen.set x true)).2)
def wV(s:List Bool):Nat:=s.countP (fun b=> !b)
theorem LW{s:List Bool}{x:Nat}(h:s[x]?=some false):wV (s.set x true)+1=wV s:=by
 induction s generalizing x with
 |nil=>simp at h
 |cons b s ih=>
  cases x with
  |zero=>simp at h;subst h;simp[wV]
  |succ x=>have:=ih (x:=x) (by simpa using h);unfold wV at this ⊢;simp only[List.set_cons_succ,uy];omega
theorem arG(next:Nat->Nat):∀(k x:Nat) (s:List Bool),(eD next k x s).2.length=s.length:=by
 intro k
 induction k with
 |zero=>intro x s;rfl
 |succ k ih=>
  intro x s;unfold eD;split
  .rfl
  simp[ih]
def tq(next:Nat->Nat)(st:List (List Nat)×List Bool)(d:Nat):List (List Nat)×List Bool:=if st.2.getD d true then st else (st.1++[(eD next (st.2.length+1) d st.2).1],(eD next (st.2.length+1) d st.2).2)
def dt(next:Nat->Nat)(N k:Nat):List (List Nat)×List Bool:=(List.range k).foldl (tq next) ([],List.replicate N false)
def dR(next:Nat->Nat)(N:Nat):List (List Nat):=(dt next N N).1
theorem wW(next:Nat->Nat)(N k:Nat):dt next N (k+1)=tq next (dt next N k) k:=by unfold dt;rw[rH,Mb];rfl
theorem Fq(next:Nat->Nat)(N:Nat):∀k,(dt next N k).2.length=N:=by
 intro k
 induction k with
 |zero=>simp[dt]
 |succ k ih=>
  rw[wW];unfold tq;split
  .exact ih
  simp[arG,ih]
theorem arO(next:Nat->Nat)(N k:Nat)(hk:1<=k)(hN:1<=N):(dt next N k).1≠[]:=by
 induction k with
 |zero=>omega
 |succ k ih=>
  rw[wW];by_cases h0:k=0
  .subst h0;have hz:(dt next N 0)=([],List.replicate N false):=rfl;have hg:(List.replicate N false).getD 0 true=false:=by
    obtain⟨n,rfl⟩:∃n,N=n+1:=⟨N-1,aa⟩;rfl
   rw[hz];unfold tq;simp only[hg];simp
  have:=ih aa;unfold tq;split
  .exact this
  simp
theorem IA(next:Nat->Nat)(N:Nat):∀k,(dt next N k).1.length<=k:=by
 intro k
 induction k with
 |zero=>simp[dt]
 |succ k ih=>
  rw[wW];unfold tq;split
  .omega
  simp;exact ih
theorem Ix(s:List Bool):wV s<=s.length:=Ps
theorem arJ{ls:List Let}{ax:List Nat}(hl:ls.length<=1000000)(fO:ax.length<=1000000)(iT:∀x∈ax,x<ls.length)(hp:∀v l,ls[v]?=some l->(l.kind==2)=false->v∈ax){Q:dS}:
  ∀(fuel x:Nat) (sn:List Bool) (w:List Nat) (ak:Env) (aj:aA),ak 1=.one (.ba 1536000000 1 0)->aj 1536000000=(1,some (.var (n9 f ls)))->
   ak 4=.one (.hsl 1536128064 1 1 0 ax.length)->aj 1536128064=(1,some (.arr 3 1 (nP ax)))->ak 5=.one (.hsl 1536192512 1 1 0 sn.length)->aj 1536192512=(1,some (.arr 4 1 (bP sn)))->
   Dh 1536832192 w (ak 7) aj->ak 8=vi x->x<sn.length->sn.length=2*ls.length+2*ax.length->wV sn<fuel->w.length+wV sn<=5000000->
   (∀aI ao,aI 1=ak 1->aI 3=ak 3->aI 4=ak 4->aI 5=ak 5->aI 6=ak 6->ao 1536000000=aj 1536000000->ao 1536128064=aj 1536128064->ao 1536896192=aj 1536896192->ao 1536896128=aj 1536896128->
    ao 1536192512=(1,some (.arr 4 1 (bP (eD (fN ls ax) fuel x sn).2)))->Dh 1536832192 (w++(eD (fN ls ax) fuel x sn).1) (aI 7) ao->Q .normal aI ao)->
   W S .all (.loop i24_l1) (pF 2 Q) ak aj:=by
 intro fuel
 induction fuel with
 |zero=>intro x sn w ak aj _ _ _ _ _ _ _ _ _ _ h;omega
 |succ fuel ih=>
  intro x sn w ak aj h1 hB h4 hA h5 hS ho h8 hx hsl hu hw hq;obtain⟨b,hb⟩:=aN hx;have nv:=qo hb;have xU:sn.getD x true=b:=by rw[cU,hb];rfl
  unfold eD at hq;rw[xU] at hq;refine lU ?_;cases b with
  |true=>
   simp only[go_sem,i24_l1,h5,hS,h8,hx,nv];refine hq _ _ ?_ ?_ ?_ ?_ ?_ rfl rfl rfl rfl hS ?_;all_goals simp only[go_sem]
   exact ho
  |false=>
   have CQ:=LW hb;have pt:=arw f ls ax x hl fO iT hp aa;have iV:=O8 (d:=x) iT hp aa;have jl:=F4 sn x true;have jC:∀n:Nat,n<=5000001->n*8<=140737488355328:=fun n hn=>aa;have EE:List.take ax.length (nP ax)=nP ax:=eY af;rcases ho with ⟨rfl,h7⟩|⟨NI,g,h7,hC⟩
   .simp only[go_sem,i24_l1,h1,hB,h4,hA,h5,hS,h7,h8,hx,nv,jl,EE,s44,dJ pt,eO,eC];refine ih (fN ls ax x) (sn.set x true) [x] _ _ ?_ ?_ ?_ ?_ ?_ ?_ ?_ ?_ (by simpa [hsl] using iV) (by simpa using hsl) aa (by simp;omega) ?_
    .simp only[go_sem,h1]
    .simp only[go_sem,hB]
    .simp only[go_sem,h4]
    .simp only[go_sem,hA]
    .simp only[go_sem,h5,rD]
    .simp only[go_sem]
    .simp only[go_sem];exact .inr ⟨af,_,rfl,rfl⟩
    .simp only[go_sem]
    intro aI ao q1 q3 q4 q5 q6 b1 b2 b3 b4 b5 b6;refine hq aI ao ?_ ?_ ?_ ?_ ?_ ?_ ?_ ?_ ?_ b5 ?_
    .rw[q1];simp only[go_sem]
    .rw[q3];simp only[go_sem]
    .rw[q4];simp only[go_sem]
    .rw[q5];simp only[go_sem]
    .rw[q6];simp only[go_sem]
    .rw[b1];simp only[go_sem]
    .rw[b2];simp only[go_sem]
    .rw[b3];simp only[go_sem]
    .rw[b4];simp only[go_sem]
    simpa using b6
   have r8:List.take w.length (nP w)=nP w:=eY af;have jT:=jC (w.length+1) aa;simp only[go_sem,i24_l1,h1,hB,h4,hA,h5,hS,h7,h8,hx,nv,jl,EE,s44,dJ pt,hC,r8,jT,eO,eC];refine ih (fN ls ax x) (sn.set x true) (w++[x]) _ _ ?_ ?_ ?_ ?_ ?_ ?_ ?_ ?_ (by simpa [hsl] using iV) (by simpa using hsl) aa (by simp;omega) ?_
   .simp only[go_sem,h1]
   .simp only[go_sem,hB]
   .simp only[go_sem,h4]
   .simp only[go_sem,hA]
   .simp only[go_sem,h5,rD]
   .simp only[go_sem]
   .simp only[go_sem];exact .inr ⟨af,g+1,af,by simp[aS]⟩
   .simp only[go_sem]
   intro aI ao q1 q3 q4 q5 q6 b1 b2 b3 b4 b5 b6;refine hq aI ao ?_ ?_ ?_ ?_ ?_ ?_ ?_ ?_ ?_ b5 ?_
   .rw[q1];simp only[go_sem]
   .rw[q3];simp only[go_sem]
   .rw[q4];simp only[go_sem]
   .rw[q5];simp only[go_sem]
   .rw[q6];simp only[go_sem]
   .rw[b1];simp only[go_sem]
   .rw[b2];simp only[go_sem]
   .rw[b3];simp only[go_sem]
   .rw[b4];simp only[go_sem]
   simpa using b6
def outW(site:Nat)(o:List (List Nat))(v:V)(aj:aA):Prop:=(o=[]/\v=.one (.p .nils))\/(o≠[]/\ ∃g,v=.one (.hsl site g 1 0 o.length)/\aj site=(g,some (.arr 86 1 (o.map fun w=>[rq w]))))
theorem afo(f:Int)(ls:List Let)(hl:ls.length<=1000000)(aM:aC ls≠[])(hp:∀v l,ls[v]?=some l->(l.kind==2)=false->v∈aC ls):
  aJ S 24 [cY f ls] (.one (.own 86 1 ((dR (fN ls (aC ls)) (2*ls.length+2*(aC ls).length)).map fun w=>[rq w]))):=by
 have pa:=Xj f ls hl;have iT:∀x∈aC ls,x<ls.length:=fun x h=>Mx h;have fO:(aC ls).length<=ls.length:=qQ ls ls.length;unfold I8 at pa;rw[aD aM] at pa;generalize aC ls=ax at aM hp pa iT fO;have m1:=qL (a:=ls.length) aa;have m2:=qL (a:=ax.length) aa;have m3:=wrap_add (a:=2*ls.length) (b:=2*ax.length) aa;have mJ:(nP ax).length=ax.length:=af;have jC:2*ls.length+2*ax.length<=140737488355328:=aa;have ED:List.replicate (2*ls.length+2*ax.length) [PV.bool false]=bP (List.replicate (2*ls.length+2*ax.length) false):=af
 refine bc c24 ?_;have akL:∀(aj:aA),land aj [] 1536128064 ((RV.one (.own 3 1 (nP ax))).eG (S.lone 1536128064))=some (.one (.hsl 1536128064 ((aj 1536128064).1+1) 1 0 ax.length),[(1536128064,((aj 1536128064).1+1,some (.arr 3 1 (nP ax))))]):=by intro aj;have eU:S.lone 1536128064=false:=ah;rw[eU];simp only[RV.eG,land,true_or,if_true,gk,gJ,gZ,iX,dd,sD,mU,cG,qh]
 simp only[go_sem,i24,s43,cK pa (akL _),m1,m2,m3,jC,ED];generalize hN:2*ls.length+2*ax.length=N at jC;refine cS (fun k ak aj=>ak 1=.one (.ba 1536000000 1 0)/\aj 1536000000=(1,some (.var (n9 f ls)))/\ak 4=.one (.hsl 1536128064 1 1 0 ax.length)/\aj 1536128064=(1,some (.arr 3 1 (nP ax)))/\
   ak 5=.one (.hsl 1536192512 1 1 0 N)/\aj 1536192512=(1,some (.arr 4 1 (bP (dt (fN ls ax) N k).2)))/\ak 6=vi k/\outW 1536896192 (dt (fN ls ax) N k).1 (ak 3) aj) 0 N (bn _) ?_ ?_
 .simp only[go_sem];exact⟨rfl,rfl,.inl ⟨rfl,rfl⟩⟩
 rintro k ak aj hk ⟨h1,hB,h4,hA,h5,hS,h6,ho⟩
 have hlen:=Fq (fN ls ax) N k;have CJ:=IA (fN ls ax) N k;by_cases au:k<N
 .have aL:((k:Int)<(N:Int)):=aa;have w1:=bQ (n:=k) aa;have hs:=wW (fN ls ax) N k;generalize cJ:dt (fN ls ax) N k=st at hlen hs ho hS CJ;obtain⟨out,sn⟩:=st;simp only at hlen ho hS CJ;obtain⟨b,hb⟩:=aN (ls:=sn) (k:=k) aa;have nv:=qo hb;unfold tq at hs;have xU:sn.getD k true=b:=by rw[cU,hb];rfl
  simp only[xU] at hs;cases b with
  |true=>have hs:dt (fN ls ax) N (k+1)=(out,sn):=hs;simp only[go_sem,i24_l4,i24_r3,h1,hB,h4,hA,h5,hS,h6,au,aL,nv,w1,hs];exact ho
  |false=>
   have hs:dt (fN ls ax) N (k+1)=(out++[(eD (fN ls ax) (N+1) k sn).1],(eD (fN ls ax) (N+1) k sn).2):=by rw[hs,hlen];rfl
   have hul:=Ix sn;simp only[go_sem,i24_l4,h5,hS,h6,au,aL,nv];refine arJ (f:=f) hl aa iT hp (N+1) k sn [] _ _ ?_ ?_ ?_ ?_ ?_ ?_ ?_ ?_ aa aa aa (by simp;omega) ?_
   .simp only[go_sem,h1]
   .simp only[go_sem,hB]
   .simp only[go_sem,h4]
   .simp only[go_sem,hA]
   .simp only[go_sem,h5,hlen]
   .simp only[go_sem,hS]
   .exact .inl ⟨rfl,by simp only[go_sem]⟩
   .simp only[go_sem]
   intro aI ao q1 q3 q4 q5 q6 b1 b2 b3 b4 b5 b6;simp only[go_sem,h1,h4,h5,h6] at q1 q3 q4 q5 q6;simp only[go_sem,hB,hA] at b1 b2 b3 b4;have NI:(eD (fN ls ax) (N+1) k sn).1≠[]:=by unfold eD;rw[xU];simp
   rw[gi] at b6;rcases b6 with ⟨e,_⟩|⟨_,g,h7,hC⟩
   .exact(NI e).elim
   generalize eD (fN ls ax) (N+1) k sn=wf at hs NI b5 h7 hC;obtain⟨w,fZ⟩:=wf;simp only at hs NI b5 h7 hC;have r8:List.take w.length (nP w)=nP w:=eY af;rcases ho with ⟨rfl,h3⟩|⟨ho,go,h3,hO⟩
   .rw[h3] at q3;simp only[go_sem,i24_r2,i24_r3,q1,q3,q4,q5,q6,b1,b2,b5,h7,hC,r8,w1,hs,au,uR,eO,eC];exact .inr ⟨af,_,rfl,by simp[aS]⟩
   rw[h3] at q3;have CO:List.take out.length (out.map fun w=>[rq w])=out.map fun w=>[rq w]:=eY af;have jT:(out.length+1)*24<=140737488355328:=aa;simp only[go_sem,i24_r2,i24_r3,q1,q3,q4,q5,q6,b1,b2,b3,b5,h7,hC,hO,r8,CO,jT,w1,hs,au,uR,dh,eO,eC];exact .inr ⟨af,go+1,af,by simp[aS]⟩
 have:k=N:=aa;subst this;have he:dR (fN ls ax) k=(dt (fN ls ax) k k).1:=rfl;rw[<- he] at ho;rcases ho with ⟨e,h3⟩|⟨ho,g,h3,hC⟩
 .exact(arO (fN ls ax) k k (by have:=kY.2 aM;omega) (by have:=kY.2 aM;omega) e).elim
 simp only[go_sem,i24_l4,i24_r5,h3,h5,h6,dI];exact Fa hC af
abbrev Uw(l:Let):List C:=[.p (.int .i64 l.kind),.p (.int .i64 l.gate),.p (.int .i64 l.aw),.p (.int .i64 l.id),.p (.int .i64 l.sign),.p (.bool l.over)]
def ib(l o:Let):Bool:=(o.kind==l.kind&&o.gate==l.gate)&&o.aw==l.aw
def gC(l o:Let):Bool:=((o.kind==l.kind&&o.id==l.id)&&o.sign==l.sign)&& !(o.over==l.over)
def uh(f:Int)(ls:List Let)(l:Let):Bool:= !(((((((l.id !=0||l.sign !=0)||l.over)||decide (l.gate<0))||decide (f<l.gate))||decide (l.aw<1))||decide ((ay (mO l.gate) ls:Int)<l.aw))||(((ay (ib l) ls:Nat):Int)!=1))
def kz(ls:List Let)(l:Let):Bool:= !((((((l.gate !=0||l.aw !=0)||(l.sign !=1&&l.sign != -1))||decide (l.id<1))||decide (((ay Let.aB ls/2:Nat):Int)<l.id))||(((ay (gC l) ls:Nat):Int)!=1))||(((ay (ke l.id) ls:Nat):Int)!=2))
def dX(f:Int)(ls:List Let)(l:Let):Bool:=if l.kind==1 then uh f ls l else if l.kind==2 then kz ls l else false
theorem amE{f:Int}{ls:List Let}{l:Let}{g i:Nat}{ak:Env}{aj:aA}{Q:dS}(hl:ls.length<=1000000)(h1:ak 1=.one (.ba 1472000000 1 0))(hB:aj 1472000000=(1,some (.var (n9 f ls))))(h3:ak 3=vi i)(h4:ak 4=.one (.ba 1472256320 g 0))(hL:aj 1472256320=(g,some (.var (Uw l))))
  (h5:ak 5=vi 0) (h6:ak 6=vi 0) (h7:ak 7=vi 0)
  (hq:∀aI ao,aI 1=ak 1->aI 3=ak 3->aI 4=ak 4->ao 1472000000=aj 1472000000->ao 1472256320=aj 1472256320->aI 5=vi (ay (ib l) ls)->aI 6=vi (ay (gC l) ls)->Q .normal aI ao):
  W S .all (.loop i23_l1) (pF 2 Q) ak aj:=by
 refine cS (fun k aI ao=>aI 1=.one (.ba 1472000000 1 0)/\ao 1472000000=(1,some (.var (n9 f ls)))/\aI 3=vi i/\aI 4=.one (.ba 1472256320 g 0)/\ao 1472256320=(g,some (.var (Uw l)))/\
   aI 5=vi (ay (ib l) (ls.take k))/\aI 6=vi (ay (gC l) (ls.take k))/\aI 7=vi k) 0 ls.length (bn _) ?_ ?_
 .exact⟨h1,hB,h3,h4,hL,h5,h6,h7⟩
 rintro k aI ao hk ⟨g1,gB,g3,g4,gL,g5,g6,g7⟩
 by_cases au:k<ls.length
 .obtain⟨o,ho⟩:=aN au;have hi:=gE ho;have aL:((k:Int)<(ls.length:Int)):=aa;have b5:=xv (ib l) ls k;have b6:=xv (gC l) ls k;have w1:=bQ (n:=k) aa;have w5:=bQ (n:=ay (ib l) (ls.take k)) aa;have w6:=bQ (n:=ay (gC l) (ls.take k)) aa;cases e0:(o.kind==l.kind) with
  |true=>
   cases e1:(o.gate==l.gate) with
   |true=>
    cases e2:(o.aw==l.aw) with
    |true=>
     cases e3:(o.id==l.id) with
     |true=>
      cases e4:(o.sign==l.sign) with
      |true=>
       cases e5:(o.over==l.over) with
       |true=>have c5:=qS (p:=ib l) ho (by simp only[ib,e0,e1,e2];rfl);have c6:=iR (p:=gC l) ho (by simp only[gC,e0,e3,e4,e5];rfl);simp only[go_sem,i23_l1,g1,gB,g3,g4,gL,g5,g6,g7,hi,Let.ps,aL,w1,w5,e0,e1,e2,e3,e4,e5,c5,c6];first|exact au|exact⟨au,rfl⟩|exact⟨au,rfl,rfl⟩
       |false=>have c5:=qS (p:=ib l) ho (by simp only[ib,e0,e1,e2];rfl);have c6:=qS (p:=gC l) ho (by simp only[gC,e0,e3,e4,e5];rfl);simp only[go_sem,i23_l1,g1,gB,g3,g4,gL,g5,g6,g7,hi,Let.ps,aL,w1,w5,w6,e0,e1,e2,e3,e4,e5,c5,c6];first|exact au|exact⟨au,rfl⟩|exact⟨au,rfl,rfl⟩
      |false=>have c5:=qS (p:=ib l) ho (by simp only[ib,e0,e1,e2];rfl);have c6:=iR (p:=gC l) ho (by simp only[gC,e0,e3,e4];rfl);simp only[go_sem,i23_l1,g1,gB,g3,g4,gL,g5,g6,g7,hi,Let.ps,aL,w1,w5,e0,e1,e2,e3,e4,c5,c6];first|exact au|exact⟨au,rfl⟩|exact⟨au,rfl,rfl⟩
     |false=>have c5:=qS (p:=ib l) ho (by simp only[ib,e0,e1,e2];rfl);have c6:=iR (p:=gC l) ho (by simp only[gC,e0,e3];rfl);simp only[go_sem,i23_l1,g1,gB,g3,g4,gL,g5,g6,g7,hi,Let.ps,aL,w1,w5,e0,e1,e2,e3,c5,c6];first|exact au|exact⟨au,rfl⟩|exact⟨au,rfl,rfl⟩
    |false=>
     cases e3:(o.id==l.id) with
     |true=>
      cases e4:(o.sign==l.sign) with
      |true=>
       cases e5:(o.over==l.over) with
       |true=>have c5:=iR (p:=ib l) ho (by simp only[ib,e0,e1,e2];rfl);have c6:=iR (p:=gC l) ho (by simp only[gC,e0,e3,e4,e5];rfl);simp only[go_sem,i23_l1,g1,gB,g3,g4,gL,g5,g6,g7,hi,Let.ps,aL,w1,e0,e1,e2,e3,e4,e5,c5,c6];first|exact au|exact⟨au,rfl⟩|exact⟨au,rfl,rfl⟩
       |false=>have c5:=iR (p:=ib l) ho (by simp only[ib,e0,e1,e2];rfl);have c6:=qS (p:=gC l) ho (by simp only[gC,e0,e3,e4,e5];rfl);simp only[go_sem,i23_l1,g1,gB,g3,g4,gL,g5,g6,g7,hi,Let.ps,aL,w1,w6,e0,e1,e2,e3,e4,e5,c5,c6];first|exact au|exact⟨au,rfl⟩|exact⟨au,rfl,rfl⟩
      |false=>have c5:=iR (p:=ib l) ho (by simp only[ib,e0,e1,e2];rfl);have c6:=iR (p:=gC l) ho (by simp only[gC,e0,e3,e4];rfl);simp only[go_sem,i23_l1,g1,gB,g3,g4,gL,g5,g6,g7,hi,Let.ps,aL,w1,e0,e1,e2,e3,e4,c5,c6];first|exact au|exact⟨au,rfl⟩|exact⟨au,rfl,rfl⟩
     |false=>have c5:=iR (p:=ib l) ho (by simp only[ib,e0,e1,e2];rfl);have c6:=iR (p:=gC l) ho (by simp only[gC,e0,e3];rfl);simp only[go_sem,i23_l1,g1,gB,g3,g4,gL,g5,g6,g7,hi,Let.ps,aL,w1,e0,e1,e2,e3,c5,c6];first|exact au|exact⟨au,rfl⟩|exact⟨au,rfl,rfl⟩
   |false=>
    cases e3:(o.id==l.id) with
    |true=>
     cases e4:(o.sign==l.sign) with
     |true=>
      cases e5:(o.over==l.over) with
      |true=>have c5:=iR (p:=ib l) ho (by simp only[ib,e0,e1];rfl);have c6:=iR (p:=gC l) ho (by simp only[gC,e0,e3,e4,e5];rfl);simp only[go_sem,i23_l1,g1,gB,g3,g4,gL,g5,g6,g7,hi,Let.ps,aL,w1,e0,e1,e3,e4,e5,c5,c6];first|exact au|exact⟨au,rfl⟩|exact⟨au,rfl,rfl⟩
      |false=>have c5:=iR (p:=ib l) ho (by simp only[ib,e0,e1];rfl);have c6:=qS (p:=gC l) ho (by simp only[gC,e0,e3,e4,e5];rfl);simp only[go_sem,i23_l1,g1,gB,g3,g4,gL,g5,g6,g7,hi,Let.ps,aL,w1,w6,e0,e1,e3,e4,e5,c5,c6];first|exact au|exact⟨au,rfl⟩|exact⟨au,rfl,rfl⟩
     |false=>have c5:=iR (p:=ib l) ho (by simp only[ib,e0,e1];rfl);have c6:=iR (p:=gC l) ho (by simp only[gC,e0,e3,e4];rfl);simp only[go_sem,i23_l1,g1,gB,g3,g4,gL,g5,g6,g7,hi,Let.ps,aL,w1,e0,e1,e3,e4,c5,c6];first|exact au|exact⟨au,rfl⟩|exact⟨au,rfl,rfl⟩
    |false=>have c5:=iR (p:=ib l) ho (by simp only[ib,e0,e1];rfl);have c6:=iR (p:=gC l) ho (by simp only[gC,e0,e3];rfl);simp only[go_sem,i23_l1,g1,gB,g3,g4,gL,g5,g6,g7,hi,Let.ps,aL,w1,e0,e1,e3,c5,c6];first|exact au|exact⟨au,rfl⟩|exact⟨au,rfl,rfl⟩
  |false=>have c5:=iR (p:=ib l) ho (by simp only[ib,e0];rfl);have c6:=iR (p:=gC l) ho (by simp only[gC,e0];rfl);simp only[go_sem,i23_l1,g1,gB,g3,g4,gL,g5,g6,g7,hi,Let.ps,aL,w1,e0,c5,c6];first|exact au|exact⟨au,rfl⟩|exact⟨au,rfl,rfl⟩
 have:k=ls.length:=aa;subst this;rw[jf] at g5 g6;simp only[go_sem,i23_l1,g1,gB,g7,dI];refine hq _ _ ?_ ?_ ?_ ?_ ?_ ?_ ?_;all_goals simp only[go_sem,g1,gB,g3,g4,gL,g5,g6,h1,hB,h3,h4,hL]
theorem amF{f:Int}{ls:List Let}{l:Let}{g i:Nat}{ak:Env}{aj:aA}{Q:dS}(hl:ls.length<=1000000)(h1:ak 1=.one (.ba 1472000000 1 0))(hB:aj 1472000000=(1,some (.var (n9 f ls))))(h3:ak 3=vi i)(h4:ak 4=.one (.ba 1472256320 g 0))(hL:aj 1472256320=(g,some (.var (Uw l))))
  (h5:ak 5=vi (ay (ib l) ls)) (h6:ak 6=vi (ay (gC l) ls))
  (hq:dX f ls l=true->∀aI,aI 1=ak 1->aI 3=ak 3->Q .normal aI aj) (hr:dX f ls l=false->∀aI,aI 2=.one (.p (.bool false))->Q .ret aI aj):
  W S .all i23_r2 Q ak aj:=by
 have pin:=in_r f ls hl l.gate;have pvi:=VU f ls hl;have pti:=arc f ls hl l.id;have hcv:=qt Let.aB ls;have wv:=wrap_small (n:=ay Let.aB ls/2) aa;cases k1:(l.kind==1) with
 |true=>
  cases a1:(l.id !=0) with
  |true=>
   have aq:dX f ls l=false:=by simp only[dX,k1,uh,a1];rfl
   simp only[go_sem,i23_r2,h4,hL,k1,a1];refine⟨ah,hr aq _ ?_⟩;simp only[go_sem]
  |false=>
   cases a2:(l.sign !=0) with
   |true=>
    have aq:dX f ls l=false:=by simp only[dX,k1,uh,a1,a2];rfl
    simp only[go_sem,i23_r2,h4,hL,k1,a1,a2];refine⟨ah,hr aq _ ?_⟩;simp only[go_sem]
   |false=>
    cases a3:(l.over) with
    |true=>
     have aq:dX f ls l=false:=by simp only[dX,k1,uh,a1,a2,a3];rfl
     simp only[go_sem,i23_r2,h4,hL,k1,a1,a2,a3];refine⟨ah,hr aq _ ?_⟩;simp only[go_sem]
    |false=>
     cases a4:(decide (l.gate<0)) with
     |true=>
      have xj:(l.gate<0):=qk a4;have aq:dX f ls l=false:=by simp only[dX,k1,uh,a1,a2,a3,a4];rfl
      simp only[go_sem,i23_r2,h4,hL,k1,a1,a2,a3,xj];refine⟨ah,hr aq _ ?_⟩;simp only[go_sem]
     |false=>
      cases a5:(decide (f<l.gate)) with
      |true=>
       have xj:¬(l.gate<0):=fK a4;have jI:(f<l.gate):=qk a5;have aq:dX f ls l=false:=by simp only[dX,k1,uh,a1,a2,a3,a4,a5];rfl
       simp only[go_sem,i23_r2,h1,hB,h4,hL,k1,a1,a2,a3,xj,jI];refine⟨ah,hr aq _ ?_⟩;simp only[go_sem]
      |false=>
       cases a6:(decide (l.aw<1)) with
       |true=>
        have xj:¬(l.gate<0):=fK a4;have jI:¬(f<l.gate):=fK a5;have lV:(l.aw<1):=qk a6;have aq:dX f ls l=false:=by simp only[dX,k1,uh,a1,a2,a3,a4,a5,a6];rfl
        simp only[go_sem,i23_r2,h1,hB,h4,hL,k1,a1,a2,a3,xj,jI,lV];refine⟨ah,hr aq _ ?_⟩;simp only[go_sem]
       |false=>
        cases a7:(decide ((ay (mO l.gate) ls:Int)<l.aw)) with
        |true=>
         have xj:¬(l.gate<0):=fK a4;have jI:¬(f<l.gate):=fK a5;have lV:¬(l.aw<1):=fK a6;have I2:((ay (mO l.gate) ls:Int)<l.aw):=qk a7;have aq:dX f ls l=false:=by simp only[dX,k1,uh,a1,a2,a3,a4,a5,a6,a7];rfl
         simp only[go_sem,i23_r2,h1,hB,h4,hL,s41,gR pin,k1,a1,a2,a3,xj,jI,lV,I2];refine⟨ah,hr aq _ ?_⟩;simp only[go_sem]
        |false=>
         cases a8:(((ay (ib l) ls:Nat):Int)!=1) with
         |true=>
          have xj:¬(l.gate<0):=fK a4;have jI:¬(f<l.gate):=fK a5;have lV:¬(l.aw<1):=fK a6;have I2:¬((ay (mO l.gate) ls:Int)<l.aw):=fK a7;have aq:dX f ls l=false:=by simp only[dX,k1,uh,a1,a2,a3,a4,a5,a6,a7,a8];rfl
          simp only[go_sem,i23_r2,h1,hB,h4,hL,h5,s41,gR pin,k1,a1,a2,a3,xj,jI,lV,I2,a8];refine⟨ah,hr aq _ ?_⟩;simp only[go_sem]
         |false=>
          have xj:¬(l.gate<0):=fK a4;have jI:¬(f<l.gate):=fK a5;have lV:¬(l.aw<1):=fK a6;have I2:¬((ay (mO l.gate) ls:Int)<l.aw):=fK a7;have aq:dX f ls l=true:=by simp only[dX,k1,uh,a1,a2,a3,a4,a5,a6,a7,a8];rfl
          simp only[go_sem,i23_r2,h1,hB,h4,hL,h5,s41,gR pin,k1,a1,a2,a3,xj,jI,lV,I2,a8];refine⟨ah,hq aq _ ?_ ?_⟩;all_goals simp only[go_sem]
 |false=>
  cases k2:(l.kind==2) with
  |true=>
   cases a1:(l.gate !=0) with
   |true=>
    have aq:dX f ls l=false:=by simp only[dX,k1,k2,kz,a1];rfl
    simp only[go_sem,i23_r2,h4,hL,k1,k2,a1];refine⟨ah,hr aq _ ?_⟩;simp only[go_sem]
   |false=>
    cases a2:(l.aw !=0) with
    |true=>
     have aq:dX f ls l=false:=by simp only[dX,k1,k2,kz,a1,a2];rfl
     simp only[go_sem,i23_r2,h4,hL,k1,k2,a1,a2];refine⟨ah,hr aq _ ?_⟩;simp only[go_sem]
    |false=>
     cases a3:(l.sign !=1) with
     |true=>
      cases a4:(l.sign != -1) with
      |true=>
       have aq:dX f ls l=false:=by simp only[dX,k1,k2,kz,a1,a2,a3,a4];rfl
       simp only[go_sem,i23_r2,h4,hL,k1,k2,a1,a2,a3,a4];refine⟨ah,hr aq _ ?_⟩;simp only[go_sem]
      |false=>
       cases a5:(decide (l.id<1)) with
       |true=>
        have jI:(l.id<1):=qk a5;have aq:dX f ls l=false:=by simp only[dX,k1,k2,kz,a1,a2,a3,a4,a5];rfl
        simp only[go_sem,i23_r2,h4,hL,k1,k2,a1,a2,a3,a4,jI];refine⟨ah,hr aq _ ?_⟩;simp only[go_sem]
       |false=>
        cases a6:(decide (((ay Let.aB ls/2:Nat):Int)<l.id)) with
        |true=>
         have jI:¬(l.id<1):=fK a5;have lV:(((ay Let.aB ls/2:Nat):Int)<l.id):=qk a6;have aq:dX f ls l=false:=by simp only[dX,k1,k2,kz,a1,a2,a3,a4,a5,a6];rfl
         simp only[go_sem,i23_r2,h1,hB,h4,hL,s21,gR pvi,eL,dF,wv,k1,k2,a1,a2,a3,a4,jI,lV];refine⟨ah,hr aq _ ?_⟩;simp only[go_sem]
        |false=>
         cases a7:(((ay (gC l) ls:Nat):Int)!=1) with
         |true=>
          have jI:¬(l.id<1):=fK a5;have lV:¬(((ay Let.aB ls/2:Nat):Int)<l.id):=fK a6;have aq:dX f ls l=false:=by simp only[dX,k1,k2,kz,a1,a2,a3,a4,a5,a6,a7];rfl
          simp only[go_sem,i23_r2,h1,hB,h4,hL,h6,s21,gR pvi,eL,dF,wv,k1,k2,a1,a2,a3,a4,jI,lV,a7];refine⟨ah,hr aq _ ?_⟩;simp only[go_sem]
         |false=>
          cases a8:(((ay (ke l.id) ls:Nat):Int)!=2) with
          |true=>
           have jI:¬(l.id<1):=fK a5;have lV:¬(((ay Let.aB ls/2:Nat):Int)<l.id):=fK a6;have aq:dX f ls l=false:=by simp only[dX,k1,k2,kz,a1,a2,a3,a4,a5,a6,a7,a8];rfl
           simp only[go_sem,i23_r2,h1,hB,h4,hL,h6,s21,s42,gR pvi,gR pti,eL,dF,wv,k1,k2,a1,a2,a3,a4,jI,lV,a7,a8];refine⟨ah,hr aq _ ?_⟩;simp only[go_sem]
          |false=>
           have jI:¬(l.id<1):=fK a5;have lV:¬(((ay Let.aB ls/2:Nat):Int)<l.id):=fK a6;have aq:dX f ls l=true:=by simp only[dX,k1,k2,kz,a1,a2,a3,a4,a5,a6,a7,a8];rfl
           simp only[go_sem,i23_r2,h1,hB,h4,hL,h6,s21,s42,gR pvi,gR pti,eL,dF,wv,k1,k2,a1,a2,a3,a4,jI,lV,a7,a8];refine⟨ah,hq aq _ ?_ ?_⟩;all_goals simp only[go_sem]
     |false=>
      cases a5:(decide (l.id<1)) with
      |true=>
       have jI:(l.id<1):=qk a5;have aq:dX f ls l=false:=by simp only[dX,k1,k2,kz,a1,a2,a3,a5];rfl
       simp only[go_sem,i23_r2,h4,hL,k1,k2,a1,a2,a3,jI];refine⟨ah,hr aq _ ?_⟩;simp only[go_sem]
      |false=>
       cases a6:(decide (((ay Let.aB ls/2:Nat):Int)<l.id)) with
       |true=>
        have jI:¬(l.id<1):=fK a5;have lV:(((ay Let.aB ls/2:Nat):Int)<l.id):=qk a6;have aq:dX f ls l=false:=by simp only[dX,k1,k2,kz,a1,a2,a3,a5,a6];rfl
        simp only[go_sem,i23_r2,h1,hB,h4,hL,s21,gR pvi,eL,dF,wv,k1,k2,a1,a2,a3,jI,lV];refine⟨ah,hr aq _ ?_⟩;simp only[go_sem]
       |false=>
        cases a7:(((ay (gC l) ls:Nat):Int)!=1) with
        |true=>
         have jI:¬(l.id<1):=fK a5;have lV:¬(((ay Let.aB ls/2:Nat):Int)<l.id):=fK a6;have aq:dX f ls l=false:=by simp only[dX,k1,k2,kz,a1,a2,a3,a5,a6,a7];rfl
         simp only[go_sem,i23_r2,h1,hB,h4,hL,h6,s21,gR pvi,eL,dF,wv,k1,k2,a1,a2,a3,jI,lV,a7];refine⟨ah,hr aq _ ?_⟩;simp only[go_sem]
        |false=>
         cases a8:(((ay (ke l.id) ls:Nat):Int)!=2) with
         |true=>
          have jI:¬(l.id<1):=fK a5;have lV:¬(((ay Let.aB ls/2:Nat):Int)<l.id):=fK a6;have aq:dX f ls l=false:=by simp only[dX,k1,k2,kz,a1,a2,a3,a5,a6,a7,a8];rfl
          simp only[go_sem,i23_r2,h1,hB,h4,hL,h6,s21,s42,gR pvi,gR pti,eL,dF,wv,k1,k2,a1,a2,a3,jI,lV,a7,a8];refine⟨ah,hr aq _ ?_⟩;simp only[go_sem]
         |false=>
          have jI:¬(l.id<1):=fK a5;have lV:¬(((ay Let.aB ls/2:Nat):Int)<l.id):=fK a6;have aq:dX f ls l=true:=by simp only[dX,k1,k2,kz,a1,a2,a3,a5,a6,a7,a8];rfl
          simp only[go_sem,i23_r2,h1,hB,h4,hL,h6,s21,s42,gR pvi,gR pti,eL,dF,wv,k1,k2,a1,a2,a3,jI,lV,a7,a8];refine⟨ah,hq aq _ ?_ ?_⟩;all_goals simp only[go_sem]
  |false=>
   have aq:dX f ls l=false:=by simp only[dX,k1,k2];rfl
   simp only[go_sem,i23_r2,h4,hL,k1,k2];refine hr aq _ ?_;simp only[go_sem]
def vk(f:Int)(ls:List Let):Bool:=ls.all (dX f ls)
theorem amG(f:Int)(ls:List Let)(hl:ls.length<=1000000):aJ S 23 [cY f ls] (rb (vk f ls)):=by
 refine bc c23 ?_;simp only[go_sem,i23];refine cS (fun k ak aj=>ak 1=.one (.ba 1472000000 1 0)/\aj 1472000000=(1,some (.var (n9 f ls)))/\ak 3=vi k/\ ∀j l,j<k->ls[j]?=some l->dX f ls l=true) 0 ls.length (bn _) ?_ ?_
 .simp only[go_sem];exact⟨rfl,fun j l h=>absurd h (mv j)⟩
 rintro k ak aj hk ⟨h1,hB,h3,aq⟩
 by_cases au:k<ls.length
 .obtain⟨l,ho⟩:=aN au;have hi:=gE ho;have aL:((k:Int)<(ls.length:Int)):=aa;have w1:=bQ (n:=k) aa;simp only[go_sem,i23_l4,h1,hB,h3,hi,Let.ps,aL];refine amE (f:=f) (l:=l) (g:=(aj 1472256320).1+1) (i:=k) hl ?_ ?_ ?_ ?_ ?_ ?_ ?_ ?_ ?_
  .simp only[go_sem,h1]
  .simp only[go_sem,hB]
  .simp only[go_sem,h3]
  .simp only[go_sem]
  .simp only[go_sem]
  .simp only[go_sem]
  .simp only[go_sem]
  .simp only[go_sem]
  intro aI ao q1 q3 q4 b1 b2 q5 q6;simp only[go_sem,h1,h3] at q1 q3 q4;simp only[go_sem,hB] at b1 b2;simp only[go_sem];refine amF (f:=f) (l:=l) (i:=k) hl q1 b1 q3 q4 b2 q5 q6 ?_ ?_
  .intro Kx cP e1 e3;rw[q1] at e1;rw[q3] at e3;simp only[go_sem,i23_r3,e1,b1,e3,w1];refine⟨au,fun j l' hj tW=>?_⟩;rcases kB.1 hj with hj|rfl
   .exact aq j l' hj tW
   rw[ho] at tW;cases tW;exact Kx
  intro Ts cP e2;have hf:vk f ls=false:=by unfold vk;rw[Wf];exact⟨l,aW ho,by simp[Ts]⟩
  simp only[go_sem,e2,hf]
 have:k=ls.length:=aa;subst this;have hf:vk f ls=true:=by unfold vk;rw[ij];intro x hx;obtain⟨j,hj,rfl⟩:=List.getElem_of_mem hx;exact aq j _ hj af
 simp only[go_sem,i23_l4,i23_r5,h1,hB,h3,dI,hf]
theorem alM{ls:List Let}{o:List Nat}{i x:Nat}:x∈yl ls o i↔x∈o\/x=i:=by
 unfold yl;generalize (o.takeWhile (zq ls i)).length=K;constructor
 .intro h;rcases fi.1 h with h|h
  .exact .inl (vC h)
  rcases dh.1 h with h|h
  .exact .inr h
  exact .inl (uB h)
 rintro (h|rfl)
 .rw[<- tz K o] at h;rcases fi.1 h with h|h
  .exact fi.2 (.inl h)
  exact fi.2 (.inr (dh.2 (.inr h)))
 simp
theorem Xg{ls:List Let}:∀ {k x:Nat},k<=ls.length->(x∈mD ls k↔x<k/\ ∃l,ls[x]?=some l/\l.aG=true):=by
 intro k
 induction k with
 |zero=>intro x _;simp[mD]
 |succ k ih=>
  intro x hk;rw[F3];obtain⟨l,hl⟩:=aN (ls:=ls) (k:=k) aa;have ih:=ih (x:=x) aa;unfold yL;rw[hl];simp only;by_cases hp:l.aG=true
  .rw[aE hp,alM,ih];constructor
   .rintro (⟨h1,h2⟩|rfl)
    .exact⟨aa,h2⟩
    exact⟨aa,l,hl,hp⟩
   rintro ⟨h1,h2⟩
   rcases kB.1 h1 with h|rfl
   .exact .inl ⟨h,h2⟩
   exact .inr rfl
  rw[aD hp,ih];constructor
  .rintro ⟨h1,h2⟩;exact⟨aa,h2⟩
  rintro ⟨h1,m,hm,sZ⟩
  rcases kB.1 h1 with h|rfl
  .exact⟨h,m,hm,sZ⟩
  rw[hl] at hm;cases hm;exact(hp sZ).elim
theorem qR{ls:List Let}{x:Nat}:x∈aC ls↔ ∃l,ls[x]?=some l/\l.aG=true:=by
 have:=Xg (ls:=ls) (k:=ls.length) (x:=x) (cA _);have e:aC ls=mD ls ls.length:=rfl;rw[e,this];constructor
 .rintro ⟨_,h⟩;exact h
 rintro ⟨l,h,h2⟩;exact⟨(aY.1 h).1,l,h,h2⟩
theorem acy{ls:List Let}(h:vk f ls=true){v:Nat}{l:Let}(hv:ls[v]?=some l):l.aG=true\/l.aB=true:=by
 have:=(ij.1 h) l (aW hv);unfold dX at this;unfold Let.aG Let.aB;cases h1:(l.kind==1) with
 |true=>exact .inl rfl
 |false=>
  cases h2:(l.kind==2) with
  |true=>exact .inr rfl
  |false=>rw[h1,h2] at this;simp at this
def ky(ls:List Let):Nat:=(dR (fN ls (aC ls)) (2*ls.length+2*(aC ls).length)).length
def ki(f:Int)(ls:List Let):Bool:=(match ls[0]? with|some l=>l.kind==1|none=>true)&&(ay Let.aG ls%2==0)&&vk f ls&&(ky ls==ay Let.aG ls+ay Let.aB ls/2+2)
def dT(f:Int)(ls:List Let):Int:=if 400<ls.length\/200<ay Let.aB ls then 7 else if f<0\/40<f then 2 else if ls=[] then 0 else if ki f ls then 0 else 3
theorem ahR(f:Int)(ls:List Let)(hl:ls.length<=1000000):aJ S 6 [cY f ls] (ri (dT f ls)):=by
 have pvi:=VU f ls hl;have ppa:=adC f ls hl;have ple:=amG f ls hl;have pcr:=QI f ls hl;have hci:=qt Let.aB ls;have fQ:=qt Let.aG ls;refine bc c6 ?_;unfold dT;by_cases h1:400<ls.length
 .have jK:(400:Int)<(ls.length:Int):=aa;simp only[go_sem,i6,h1,jK]
 have jK:¬(400:Int)<(ls.length:Int):=aa;by_cases h2:200<ay Let.aB ls
 .have iS:(200:Int)<(ay Let.aB ls:Int):=aa;simp only[go_sem,i6,h1,jK,h2,iS,s21,dJ pvi]
 have iS:¬(200:Int)<(ay Let.aB ls:Int):=aa;by_cases h3:f<0
 .simp only[go_sem,i6,h1,jK,h2,iS,h3,s21,dJ pvi]
 by_cases h4:40<f
 .simp only[go_sem,i6,h1,jK,h2,iS,h3,h4,s21,dJ pvi]
 have ak5:¬(400<ls.length\/200<ay Let.aB ls):=aa;have ak6:¬(f<0\/40<f):=aa;rw[aD ak5,aD ak6];by_cases he:ls=[]
 .subst he;have hz:(((0:Nat):Int)==0)=true:=ae;have hz3:¬((400:Int)<((0:Nat):Int)):=ae;have aoJ:aJ S 21 [.agg [.p (.int .i64 f),.p (.sl [])]] (ri (ay Let.aB [])):=pvi;simp only[go_sem,i6,hz3,iS,h3,h4,s21,dJ aoJ,hz]
 have hlen:0<ls.length:=kY.2 he;obtain⟨l0,h0⟩:=aN hlen;have xX:=gE h0;have Ez:(((ls.length:Nat):Int)==0)=false:=by simp;omega
 rw[aD he];generalize hr:(if ki f ls=true then (0:Int) else 3)=r;cases c1:(l0.kind==1) with
 |false=>
  have c1':(l0.kind !=1)=true:=by simp[bne,c1]
  have hv:ki f ls=false:=by simp only[ki,h0,c1];rfl
  rw[hv] at hr;have hr:(3:Int)=r:=hr;subst hr;simp only[go_sem,i6,jK,iS,h3,h4,s21,dJ pvi,Ez,s22,dJ ppa,xX,Let.ps,c1'];exact aH
 |true=>
  have c1':(l0.kind !=1)=false:=by simp[bne,c1]
  cases c2:(ay Let.aG ls%2==0) with
  |false=>
   have c2':(((ay Let.aG ls%2:Nat):Int)!=0)=true:=by simp at c2 ⊢;omega
   have hv:ki f ls=false:=by simp only[ki,h0,c1,c2];rfl
   rw[hv] at hr;have hr:(3:Int)=r:=hr;subst hr;simp only[go_sem,i6,jK,iS,h3,h4,s21,dJ pvi,Ez,s22,dJ ppa,xX,Let.ps,c1',ig,dF,c2'];exact aH
  |true=>
   have c2':(((ay Let.aG ls%2:Nat):Int)!=0)=false:=by simp at c2 ⊢;omega
   cases c3:vk f ls with
   |false=>
    rw[c3] at ple;have hv:ki f ls=false:=by simp only[ki,h0,c1,c2,c3];rfl
    rw[hv] at hr;have hr:(3:Int)=r:=hr;subst hr;simp only[go_sem,i6,jK,iS,h3,h4,s21,dJ pvi,Ez,s22,dJ ppa,xX,Let.ps,c1',ig,dF,c2',s23,kJ ple];exact aH
   |true=>
    rw[c3] at ple;have aM:aC ls≠[]:=fun e=>by have:(0:Nat)∈aC ls:=qR.2 ⟨l0,h0,c1⟩;rw[e] at this;cases this
    have hp:∀v l,ls[v]?=some l->(l.kind==2)=false->v∈aC ls:=fun v l hv h2=>by
     rcases acy c3 hv with h|h
     .exact qR.2 ⟨l,hv,h⟩
     unfold Let.aB at h;rw[h2] at h;cases h
    have pw:=afo f ls hl aM hp;have KJ:ky ls=(dR (fN ls (aC ls)) (2*ls.length+2*(aC ls).length)).length:=rfl;have kM:=IA (fN ls (aC ls)) (2*ls.length+2*(aC ls).length) (2*ls.length+2*(aC ls).length);generalize hW:dR (fN ls (aC ls)) (2*ls.length+2*(aC ls).length)=ws at pw kM KJ;have a1:=wrap_add (a:=ay Let.aG ls) (b:=ay Let.aB ls/2) aa;have a2:IntKind.i64.wrap (((ay Let.aG ls+ay Let.aB ls/2:Nat):Int)+2)=((ay Let.aG ls+ay Let.aB ls/2+2:Nat):Int):=wrap_add (a:=ay Let.aG ls+ay Let.aB ls/2) (b:=2) aa;have eU:S.lone 384513152=false:=ah
    have u7:∀(aj:aA),land aj [] 384513152 ((RV.one (.own 86 1 (ws.map fun w=>[rq w]))).eG (S.lone 384513152))=some (.one (.hsl 384513152 ((aj 384513152).1+1) 1 0 ws.length),[(384513152,((aj 384513152).1+1,some (.arr 86 1 (ws.map fun w=>[rq w]))))]):=by intro aj;rw[eU];simp only[RV.eG,land,true_or,if_true,gk,gJ,gZ,iX,dd,sD,mU,cG,qh]
    cases c4:(ws.length==ay Let.aG ls+ay Let.aB ls/2+2) with
    |false=>
     have c4':(((ws.length:Nat):Int)!=((ay Let.aG ls+ay Let.aB ls/2+2:Nat):Int))=true:=by simp at c4 ⊢;omega
     have hv:ki f ls=false:=by simp only[ki,h0,c1,c2,c3,KJ,c4];rfl
     rw[hv] at hr;have hr:(3:Int)=r:=hr;subst hr;simp only[go_sem,i6,jK,iS,h3,h4,s21,dJ pvi,Ez,s22,dJ ppa,xX,Let.ps,c1',ig,dF,c2',s23,kJ ple,s24,xz pw (u7 _),s25,gR pcr,a1,a2,c4'];exact aH
    |true=>
     have c4':(((ws.length:Nat):Int)!=((ay Let.aG ls+ay Let.aB ls/2+2:Nat):Int))=false:=by simp at c4 ⊢;omega
     have hv:ki f ls=true:=by simp only[ki,h0,c1,c2,c3,KJ,c4];rfl
     rw[hv] at hr;have hr:(0:Int)=r:=hr;subst hr;simp only[go_sem,i6,jK,iS,h3,h4,s21,dJ pvi,Ez,s22,dJ ppa,xX,Let.ps,c1',ig,dF,c2',s23,kJ ple,s24,xz pw (u7 _),s25,gR pcr,a1,a2,c4'];exact aH
def dr(f:Int)(l:Let):Bool:=if l.kind==1 then (((decide (l.gate<0)||decide (f<l.gate))||l.id !=0)||l.sign !=0)||l.over else if l.kind==2 then (l.gate !=0||l.aw !=0)||(l.sign !=1&&l.sign != -1) else true
theorem ahg(f:Int)(l:Let)(x1 x2 x3 x4 x5 x6:PV):aJ S 125 [Bk l,.one (.p (.box [.box [.int .i64 f,x1,x2,x3,x4,x5,x6]]))] (rb (dr f l)):=by
 refine bc c125 ?_;cases k1:(l.kind==1) with
 |true=>
  cases a1:(decide (l.gate<0)) with
  |true=>
   have xh:(l.gate<0):=qk a1;have hb:dr f l=true:=by simp only[dr,k1,a1];rfl
   simp only[go_sem,i125,k1,xh,hb];exact aH
  |false=>
   cases a2:(decide (f<l.gate)) with
   |true=>
    have xh:¬(l.gate<0):=fK a1;have Ad:(f<l.gate):=qk a2;have hb:dr f l=true:=by simp only[dr,k1,a1,a2];rfl
    simp only[go_sem,i125,k1,xh,Ad,hb];exact aH
   |false=>
    cases a3:(l.id !=0) with
    |true=>
     have xh:¬(l.gate<0):=fK a1;have Ad:¬(f<l.gate):=fK a2;have hb:dr f l=true:=by simp only[dr,k1,a1,a2,a3];rfl
     simp only[go_sem,i125,k1,xh,Ad,a3,hb];exact aH
    |false=>
     cases a4:(l.sign !=0) with
     |true=>
      have xh:¬(l.gate<0):=fK a1;have Ad:¬(f<l.gate):=fK a2;have hb:dr f l=true:=by simp only[dr,k1,a1,a2,a3,a4];rfl
      simp only[go_sem,i125,k1,xh,Ad,a3,a4,hb];exact aH
     |false=>
      cases a5:(l.over) with
      |true=>
       have xh:¬(l.gate<0):=fK a1;have Ad:¬(f<l.gate):=fK a2;have hb:dr f l=true:=by simp only[dr,k1,a1,a2,a3,a4,a5];rfl
       simp only[go_sem,i125,k1,xh,Ad,a3,a4,a5,hb];exact aH
      |false=>
       have xh:¬(l.gate<0):=fK a1;have Ad:¬(f<l.gate):=fK a2;have hb:dr f l=false:=by simp only[dr,k1,a1,a2,a3,a4,a5];rfl
       simp only[go_sem,i125,k1,xh,Ad,a3,a4,a5,hb];exact aH
 |false=>
  cases k2:(l.kind==2) with
  |true=>
   cases a1:(l.gate !=0) with
   |true=>
    have hb:dr f l=true:=by simp only[dr,k1,k2,a1];rfl
    simp only[go_sem,i125,k1,k2,a1,hb]
   |false=>
    cases a2:(l.aw !=0) with
    |true=>
     have hb:dr f l=true:=by simp only[dr,k1,k2,a1,a2];rfl
     simp only[go_sem,i125,k1,k2,a1,a2,hb]
    |false=>
     cases a3:(l.sign !=1) with
     |true=>
      cases a4:(l.sign != -1) with
      |true=>
       have hb:dr f l=true:=by simp only[dr,k1,k2,a1,a2,a3,a4];rfl
       simp only[go_sem,i125,k1,k2,a1,a2,a3,a4,hb]
      |false=>
       have hb:dr f l=false:=by simp only[dr,k1,k2,a1,a2,a3,a4];rfl
       simp only[go_sem,i125,k1,k2,a1,a2,a3,a4,hb]
     |false=>
      have hb:dr f l=false:=by simp only[dr,k1,k2,a1,a2,a3];rfl
      simp only[go_sem,i125,k1,k2,a1,a2,a3,hb]
  |false=>
   have hb:dr f l=true:=by simp only[dr,k1,k2];rfl
   simp only[go_sem,i125,k1,k2,hb]
abbrev dfn(f:Int)(x1 x2 x3 x4 x5 x6:PV):PV:=.fn 125 [] [.box [.box [.int .i64 f,x1,x2,x3,x4,x5,x6]]]
theorem ahh(f:Int)(ls:List Let)(x1 x2 x3 x4 x5 x6:PV)(hl:ls.length<=1000000)(hn:x1.norm=x1/\x2.norm=x2/\x3.norm=x3/\x4.norm=x4/\x5.norm=x5/\x6.norm=x6):
  ∃k:Int,(0<=k↔ls.any (dr f)=true)/\aJ S 150 [.one (.p (hU ls)),.one (.p (dfn f x1 x2 x3 x4 x5 x6))] (ri k):=by
 have main:∀r:Int,(∀(k:Nat) l,ls[k]?=some l->dr f l=true->(∀(j:Nat) m,j<k->ls[j]?=some m->dr f m=false)->r=k)->((∀(j:Nat) m,ls[j]?=some m->dr f m=false)->r= -1)->
   aJ S 150 [.one (.p (hU ls)),.one (.p (dfn f x1 x2 x3 x4 x5 x6))] (ri r):=by
  intro r jT rj;refine bc c150 ?_;simp only[go_sem,i150];refine cS (fun k ak aj=>ak 0=.one (.p (hU ls))/\ak 1=.one (.p (dfn f x1 x2 x3 x4 x5 x6))/\ak 7=vi ls.length/\ak 8=vi k/\ ∀j m,j<k->ls[j]?=some m->dr f m=false) 0 ls.length (bn _) ?_ ?_
  .simp only[go_sem];exact⟨rfl,fun j m h=>absurd h (mv j)⟩
  rintro k ak aj hk ⟨h0,h1,h7,h8,hn⟩
  by_cases au:k<ls.length
  .obtain⟨l,dN⟩:=aN au;have hi:=gE dN;have aL:((k:Int)<(ls.length:Int)):=aa;have w1:=bQ (n:=k) aa;have pb:=ahg f l x1 x2 x3 x4 x5 x6;cases hb:dr f l with
   |true=>rw[hb] at pb;have hr:=jT k l dN hb hn;subst hr;simp only[go_sem,i150_l1,h0,h1,h7,h8,hi,Let.ps,aL,s125,cq pb]
   |false=>
    rw[hb] at pb;simp only[go_sem,i150_l1,h0,h1,h7,h8,hi,Let.ps,aL,w1,s125,cq pb];refine⟨au,fun j m hj hm=>?_⟩;rcases kB.1 hj with hj|rfl
    .exact hn j m hj hm
    rw[dN] at hm;cases hm;exact hb
  have:k=ls.length:=aa;subst this;have hr:=rj fun j m hm=>hn j m (aY.1 hm).1 hm;subst hr;simp only[go_sem,i150_l1,i150_r2,h7,h8,dI]
 cases ha:ls.any (dr f) with
 |true=>
  have hx:ls.findIdx (dr f)<ls.length:=ar6 (by simpa using ha);refine⟨(ls.findIdx (dr f):Nat),⟨fun _=>rfl,fun _=>aa⟩,main _ ?_ ?_⟩
  .intro k l dN hb hn;have hk:=(aY.1 dN).1;have h1:dr f ls[ls.findIdx (dr f)]=true:=afG;rcases Mi (ls.findIdx (dr f)) k with h|h|h
   .have:=hn _ _ h (nU hx);rw[h1] at this;cases this
   .rw[h]
   have:=List.not_of_lt_findIdx h;have e:ls[k]=l:=by rw[nU hk] at dN;exact oZ dN
   rw[e,hb] at this;simp at this
  intro hn;have h1:dr f ls[ls.findIdx (dr f)]=true:=afG;have:=hn _ _ (nU hx);rw[h1] at this;cases this
 |false=>refine⟨-1,⟨fun h=>aa,fun h=>by cases h⟩,main _ ?_ (fun _=>rfl)⟩;intro k l dN hb _;have:=Fz.1 ha l (aW dN);exact(this hb).elim
theorem ah5(f:Int)(ls:List Let)(x1 x2 x3 x4 x5 x6:PV)(hl:ls.length<=1000000)(hn:x1.norm=x1/\x2.norm=x2/\x3.norm=x3/\x4.norm=x4/\x5.norm=x5/\x6.norm=x6):
  aJ S 124 [.one (.p (hU ls)),.one (.p (dfn f x1 x2 x3 x4 x5 x6))] (rb (ls.any (dr f))):=by
 obtain⟨k,hk,pk⟩:=ahh f ls x1 x2 x3 x4 x5 x6 hl hn;refine bc c124 ?_;cases ha:ls.any (dr f) with
 |true=>have h0:=hk.2 ha;simp only[go_sem,i124,s150,dJ pk,h0]
 |false=>
  have h0:¬0<=k:=fun h=>by rw[hk.1 h] at ha;cases ha
  simp only[go_sem,i124,s150,dJ pk,h0]
abbrev Jr(f:Int)(ls:List Let)(x2 x3 x4 x5 x6:PV):PV:=.box [.int .i64 f,hU ls,x2,x3,x4,x5,x6]
theorem aix(f:Int)(ls:List Let)(x2 x3 x4 x5 x6:PV)(hl:ls.length<=1000000)(hn:x2.norm=x2/\x3.norm=x3/\x4.norm=x4/\x5.norm=x5/\x6.norm=x6):
  aJ S 103 [.one (.p (Jr f ls x2 x3 x4 x5 x6))] (rb (!ls.any (dr f))):=by
 have pc:=ah5 f ls (hU ls) x2 x3 x4 x5 x6 hl ⟨rfl,hn.1,hn.2.1,hn.2.2.1,hn.2.2.2.1,hn.2.2.2.2⟩;refine bc c103 ?_;simp only[go_sem,i103,s124,cq pc]
theorem aiq(f:Int)(ls:List Let)(l0:Let)(x2 x3 x4 x5 x6:PV)(hl:ls.length<=1000000)(h0:ls[0]?=some l0):
  aJ S 104 [.one (.p (Jr f ls x2 x3 x4 x5 x6))] (rb (l0.kind==1&&ay Let.aG ls%2==0)):=by
 have pp:=U0 f ls hl;have xX:=gE h0;refine bc c104 ?_;have e2:((((ay Let.aG ls)%2:Nat):Int)==0)=(ay Let.aG ls%2==0):=by
  cases h:(ay Let.aG ls%2==0) with
  |true=>simp at h ⊢;omega
  |false=>simp at h ⊢;omega
 cases hk:(l0.kind==1) with
 |true=>simp only[go_sem,i104,xX,Let.ps,hk,s109,dJ pp,ig,dF,e2]
 |false=>simp only[go_sem,i104,xX,Let.ps,hk]
def n0(g:Nat)(l:Let):Bool:=l.aG&&l.gate==(g:Int)
abbrev cg(ls:List Let)(g:Nat):Nat:=ay (n0 g) ls
def qu(ls:List Let)(F k:Nat):List Nat:=(List.range (F+1)).map fun g=>cg (ls.take k) g
def counts(ls:List Let)(F:Nat):List Nat:=(List.range (F+1)).map (cg ls)
theorem XW{ls:List Let}{k G:Nat}(h:G<=F):(qu ls F k)[G]?=some (cg (ls.take k) G):=by simp[qu,sI (show G<F+1 by omega)]
theorem QA(ls:List Let)(F:Nat):qu ls F ls.length=counts ls F:=by simp[qu,counts]
theorem QB(ls:List Let)(F:Nat):qu ls F 0=List.replicate (F+1) 0:=by apply vx<;>simp[qu]
theorem XY{ls:List Let}{k:Nat}{l:Let}(h:ls[k]?=some l)(hp:l.aG=false):qu ls F (k+1)=qu ls F k:=by unfold qu;congr 1;funext g;exact iR h (by simp[n0,hp])
theorem XX{ls:List Let}{k G:Nat}{l:Let}(h:ls[k]?=some l)(hp:l.aG=true)(hg:l.gate=(G:Int)):
  qu ls F (k+1)=(qu ls F k).set G (cg (ls.take k) G+1):=by
 apply vx
 .simp[qu]
 intro i h1 h2;rw[IQ];simp only[qu,BI,IP];split
 .rename_i e;subst e;exact qS h (by simp[n0,hp,hg])
 exact iR h (by simp[n0,hg];intro _ e;omega)
theorem HG(o:List Nat)(k n:Nat):(nP o).set k [.int .i64 (n:Int)]=nP (o.set k n):=by simp[zX]
theorem UF(o:List Nat):(nP o).length=o.length:=af
theorem UG(n m:Nat):nP (List.replicate n m)=List.replicate n [.int .i64 (m:Int)]:=af
theorem Xl(n:Nat)(b:Bool):bP (List.replicate n b)=List.replicate n [.bool b]:=af
theorem Js{ls:List Let}{k:Nat}{l:Let}(h:ls[k]?=some l)(hp:l.aG=true):dn ls (k+1)= !dn ls k:=by
 unfold dn;rw[qS h hp];cases hc:(ay Let.aG (ls.take k)%2==0) with
 |true=>simp at hc ⊢;omega
 |false=>simp at hc ⊢;omega
theorem Jt{ls:List Let}{k:Nat}{l:Let}(h:ls[k]?=some l)(hp:l.aG=false):dn ls (k+1)=dn ls k:=by unfold dn;rw[iR h hp]
def gY(ls:List Let)(i:Nat):Bool:=match ls[i]? with|some l=>l.aG&&dn ls i|none=>false
def rO(ls:List Let)(k:Nat):List Bool:=(List.range ls.length).map fun i=>decide (i<k)&&gY ls i
def nj(ls:List Let):List Bool:=(List.range ls.length).map (gY ls)
theorem aiF(ls:List Let):rO ls 0=List.replicate ls.length false:=by apply vx<;>simp[rO]
theorem aiB(ls:List Let):rO ls ls.length=nj ls:=by unfold rO nj;apply zW;intro i hi;simp[fJ.1 hi]
theorem aiD(ls:List Let)(k:Nat):(rO ls k).length=ls.length:=by simp[rO]
theorem aiE{ls:List Let}{k:Nat}{l:Let}(h:ls[k]?=some l)(hp:l.aG=false):rO ls (k+1)=rO ls k:=by
 unfold rO;apply zW;intro i hi;by_cases e:i=k
 .subst e;simp[gY,h,hp]
 have:(i<k+1)↔(i<k):=aa;simp[this]
theorem aiC{ls:List Let}{k:Nat}{l:Let}(h:ls[k]?=some l)(hp:l.aG=true):rO ls (k+1)=(rO ls k).set k (dn ls k):=by
 apply vx
 .simp[rO]
 intro i h1 h2;rw[IQ];simp only[rO,BI,IP];split
 .rename_i e;subst e;simp[gY,h,hp]
 have:(i<k+1)↔(i<k):=aa;simp[this]
def fj(ls:List Let)(g:Nat):Nat:=((List.range g).map (cg ls)).sum
theorem rT(ls:List Let)(g:Nat):fj ls (g+1)=fj ls g+cg ls g:=by simp[fj,rH]
def uQ(ls:List Let)(F k:Nat):List Nat:=(List.range (F+1)).map fun g=>if g<k then fj ls g else 0
def Gv(ls:List Let)(F:Nat):List Nat:=(List.range (F+1)).map (fj ls)
theorem ajB(ls:List Let)(F:Nat):uQ ls F 0=List.replicate (F+1) 0:=by apply vx<;>simp[uQ]
theorem ajy(ls:List Let)(F:Nat):uQ ls F (F+1)=Gv ls F:=by unfold uQ Gv;apply zW;intro i hi;simp[fJ.1 hi]
theorem ajz(ls:List Let)(F k:Nat):(uQ ls F k).length=F+1:=by simp[uQ]
theorem ajA(ls:List Let)(F k:Nat):uQ ls F (k+1)=(uQ ls F k).set k (fj ls k):=by
 apply vx
 .simp[uQ]
 intro i h1 h2;rw[IQ];simp only[uQ,BI,IP];by_cases e:k=i
 .subst e;simp
 have:(i<k+1)↔(i<k):=aa;simp only[this,aD e]
theorem MD{ls:List Let}{G:Nat}(h:G<=F):(counts ls F)[G]?=some (cg ls G):=by simp[counts,sI (show G<F+1 by omega)]
theorem ajC{ls:List Let}{G:Nat}(h:G<=F):(Gv ls F)[G]?=some (fj ls G):=by simp[Gv,sI (show G<F+1 by omega)]
theorem yO{ls:List Let}{a b:Nat}(h:a<=b):fj ls a<=fj ls b:=by
 induction h with
 |refl=>exact cA _
 |step _ ih=>rw[rT];omega
theorem agY(g:Nat)(a:Let):((a.aG&&(decide (0<=a.gate)&&decide (a.gate<((g+1:Nat):Int))))=true)↔((a.aG&&(decide (0<=a.gate)&&decide (a.gate<(g:Int))))=true\/n0 g a=true):=by
 simp only[n0,cE,lh,dk];constructor
 .rintro ⟨h1,h2,h3⟩
  by_cases h:a.gate=(g:Int)
  .exact Or.inr ⟨h1,h⟩
  exact Or.inl ⟨h1,h2,aa⟩
 rintro (⟨h1,h2,h3⟩|⟨h1,h2⟩)
 .exact⟨h1,h2,aa⟩
 exact⟨h1,aa,aa⟩
theorem agX(g:Nat)(a:Let):(a.aG&&(decide (0<=a.gate)&&decide (a.gate<(g:Int))))=true->n0 g a=true->False:=by simp only[n0,cE,lh,dk];omega
theorem Qz{p q r:Let->Bool}(h:∀a,r a=true↔(p a=true\/q a=true))(hn:∀a,p a=true->q a=true->False):∀ls:List Let,ls.countP r=ls.countP p+ls.countP q:=by
 intro ls
 induction ls with
 |nil=>rfl
 |cons a ls ih=>rw[uy,uy,uy,ih];have h1:=h a;have h2:=hn a;cases ep:p a<;>cases eq:q a<;>cases er:r a<;>simp_all<;>omega
theorem ZP(ls:List Let):∀g,fj ls g=ay (fun l=>l.aG&&(decide (0<=l.gate)&&decide (l.gate<((g:Nat):Int)))) ls:=by
 intro g
 induction g with
 |zero=>symm;show ls.countP _=0;rw[IL];intro a _;simp only[cE,lh];omega
 |succ g ih=>rw[rT,ih];exact(Qz (agY g) (agX g) ls).symm
theorem S7(ls:List Let)(g:Nat):fj ls g<=ls.length:=by rw[ZP];exact qt _ _
def dE(ls:List Let)(l:Let):Nat:=fj ls l.gate.toNat+l.aw.toNat-1
def qY(ls:List Let)(p i:Nat):Bool:=match ls[i]? with|some l=>l.aG&&dE ls l==p|none=>false
def vt(ls:List Let)(T k:Nat):List Bool:=(List.range T).map fun p=>(List.range k).any (qY ls p)
def I6(ls:List Let)(k p:Nat):Nat:=((List.range k).find? (qY ls p)).getD 0
def qP(ls:List Let)(T k:Nat):List Nat:=(List.range T).map (I6 ls k)
def zD(ls:List Let)(i:Nat):Nat:=match ls[i]? with|some l=>if l.aG then dE ls l else 0|none=>0
def iN(ls:List Let)(k:Nat):List Nat:=(List.range ls.length).map fun i=>if i<k then zD ls i else 0
def rB(ls:List Let)(i:Nat):Bool:=match ls[i]? with
 |some l=> !l.aG||(decide (1<=l.aw)&&decide (l.aw<=(cg ls l.gate.toNat:Int)))&& !(List.range i).any (qY ls (dE ls l))
 |none=>true
def wQ(ls:List Let):Bool:=(List.range ls.length).all (rB ls)
theorem aq8(ls:List Let)(T:Nat):vt ls T 0=List.replicate T false:=by apply vx<;>simp[vt]
theorem ag1(ls:List Let)(T:Nat):qP ls T 0=List.replicate T 0:=by apply vx<;>simp[qP,I6]
theorem anV(ls:List Let):iN ls 0=List.replicate ls.length 0:=by apply vx<;>simp[iN]
theorem Xf(ls:List Let)(T k:Nat):(qP ls T k).length=T:=by simp[qP]
theorem anT(ls:List Let)(k:Nat):(iN ls k).length=ls.length:=by simp[iN]
theorem aq5{ls:List Let}{T k p:Nat}(h:p<T):(vt ls T k)[p]?=some ((List.range k).any (qY ls p)):=by simp[vt,h]
theorem aaM{ls:List Let}{k p:Nat}{l:Let}(h:ls[k]?=some l)(hp:l.aG=false):qY ls p k=false:=by simp[qY,h,hp]
theorem aq7{ls:List Let}{T k:Nat}{l:Let}(h:ls[k]?=some l)(hp:l.aG=false):vt ls T (k+1)=vt ls T k:=by unfold vt;congr 1;funext p;simp[rH,List.any_append,aaM h hp]
theorem ag0{ls:List Let}{T k:Nat}{l:Let}(h:ls[k]?=some l)(hp:l.aG=false):qP ls T (k+1)=qP ls T k:=by unfold qP;congr 1;funext p;simp[I6,rH,afF,aaM h hp]
theorem anU{ls:List Let}{k:Nat}{l:Let}(h:ls[k]?=some l)(hp:l.aG=false):iN ls (k+1)=iN ls k:=by
 unfold iN;apply zW;intro i hi;by_cases e:i=k
 .subst e;simp[zD,h,hp]
 have:(i<k+1)↔(i<k):=aa;simp[this]
theorem Kt{ls:List Let}{k p:Nat}{l:Let}(h:ls[k]?=some l)(hp:l.aG=true):qY ls p k=(dE ls l==p):=by simp[qY,h,hp]
theorem aq6{ls:List Let}{T k:Nat}{l:Let}(h:ls[k]?=some l)(hp:l.aG=true):vt ls T (k+1)=(vt ls T k).set (dE ls l) true:=by
 apply vx
 .simp[vt]
 intro i h1 h2;rw[IQ];simp only[vt,BI,IP,rH,List.any_append,List.any_cons,List.any_nil,Bool.or_false,Kt h hp];split
 .rename_i e;simp[e]
 rename_i e;simp[e]
theorem agZ{ls:List Let}{T k:Nat}{l:Let}(h:ls[k]?=some l)(hp:l.aG=true)(hn:(List.range k).any (qY ls (dE ls l))=false):qP ls T (k+1)=(qP ls T k).set (dE ls l) k:=by
 apply vx
 .simp[qP]
 intro i h1 h2;rw[IQ];simp only[qP,BI,IP,I6,rH,afF];by_cases e:dE ls l=i
 .have h3:(List.range k).find? (qY ls i)=none:=by
   rw[<- e,IM];intro x hx hq;rw[Fz] at hn;exact hn x hx hq
  have h4:qY ls i k=true:=by rw[Kt h hp];simp[e]
  rw[h3,aE e,Pv,h4];rfl
 have h4:qY ls i k=false:=by rw[Kt h hp];simp[e]
 rw[aD e,Pv,h4];simp
theorem anS{ls:List Let}{k:Nat}{l:Let}(h:ls[k]?=some l)(hp:l.aG=true):iN ls (k+1)=(iN ls k).set k (dE ls l):=by
 apply vx
 .simp[iN]
 intro i h1 h2;rw[IQ];simp only[iN,BI,IP];by_cases e:k=i
 .subst e;simp[zD,h,hp]
 have:(i<k+1)↔(i<k):=aa;simp only[this,aD e]
theorem Vi{ls:List Let}{k:Nat}(hk:k<ls.length)(h:rB ls k=false):wQ ls=false:=by unfold wQ;rw[Wf];exact⟨k,fJ.2 hk,by simp[h]⟩
theorem aoM{ls:List Let}(h:∀i,i<ls.length->rB ls i=true):wQ ls=true:=by unfold wQ;rw[ij];exact fun i hi=>h i (fJ.1 hi)
abbrev FK(id:Nat):Prop:=id=2432320128\/mr id=105
abbrev tM(F:Nat)(ls:List Let)(c2 c3 c4 c5 c6:C):List C:=[.p (.int .i64 (F:Int)),.p (hU ls),c2,c3,c4,c5,c6]
abbrev hs(id g n:Nat):C:=.hsl id g 1 0 n
abbrev pJ(F:Nat)(ls:List Let):Prop:=∀l∈ls,l.aG=true->0<=l.gate/\l.gate<=(F:Int)
def Ia(F:Nat)(ls:List Let)(g:Nat)(c5:C)(nh:aA)(v:V)(ao:aA):Prop:=
 v=vb (wQ ls)/\Kept FK nh ao/\(wQ ls=true->∃g1 g2 g3 g5,ao 2432320128=(g,some (.var (tM F ls (hs 6720128448 g2 ls.length) (hs 6721344128 g5 (fj ls (F+1))) (hs 6720192448 g3 ls.length) c5 (hs 6720064448 g1 (F+1)))))/\
  ao 6720064448=(g1,some (.arr 3 1 (nP (counts ls F))))/\ao 6720128448=(g2,some (.arr 4 1 (bP (nj ls))))/\ao 6720192448=(g3,some (.arr 3 1 (nP (iN ls ls.length))))/\
  ao 6721344128=(g5,some (.arr 3 1 (nP (qP ls (fj ls (F+1)) ls.length)))))
theorem rk3{al:Al}(okD:al.ok 2432320128=true)(ok:∀id,mr id=105->al.ok id=true){nh aj:aA}{ak:Env}{g g1 g2 g3 g4 F:Nat}{ls:List Let}{c3 c5:C}(hl:ls.length<=1000000)(hF:F<=1000000)(hg:pJ F ls)
  (h0:ak 0=.one (.ba 2432320128 g 0)) (h6:ak 6=.one (hs 6720832384 g4 (F+1))) (h7:ak 7=vi (fj ls (F+1)))
  (bD:aj 2432320128=(g,some (.var (tM F ls (hs 6720128448 g2 ls.length) c3 (hs 6720192448 g3 ls.length) c5 (hs 6720064448 g1 (F+1))))))
  (bC:aj 6720064448=(g1,some (.arr 3 1 (nP (counts ls F))))) (bW:aj 6720128448=(g2,some (.arr 4 1 (bP (nj ls))))) (ng:aj 6720192448=(g3,some (.arr 3 1 (nP (iN ls 0)))))
  (bF:aj 6720832384=(g4,some (.arr 3 1 (nP (Gv ls F))))) (hk:Kept FK nh aj):W S al i105_r5 (qT al [(2,none)] (Ia F ls g c5 nh)) ak aj:=by
 have o1:=ok 6720064448 rfl;have o2:=ok 6720128448 rfl;have o3:=ok 6720192448 rfl;have o4:=ok 6720448192 rfl;have o5:=ok 6720832384 rfl;have o6:=ok 6721344128 rfl;have o7:=ok 6721408064 rfl;have o8:=ok 6721600192 rfl;have hT:=S7 ls (F+1);have KP:fj ls (F+1)*8<=140737488355328:=aa;have jT:fj ls (F+1)<=140737488355328:=aa;simp only[go_sem,i105_r5,h0,h7,bD,KP,jT,okD,o6,o7];refine cS (fun k ak ao=>ak 0=.one (.ba 2432320128 g 0)/\ak 6=.one (hs 6720832384 g4 (F+1))/\ak 10=.one (hs 6721408064 ((aj 6721408064).1+1) (fj ls (F+1)))/\ak 114=.one (.p (hU ls))/\ak 115=vi ls.length/\ak 116=vi k/\
  ao 2432320128=(g,some (.var (tM F ls (hs 6720128448 g2 ls.length) (hs 6721344128 ((aj 6721344128).1+1) (fj ls (F+1))) (hs 6720192448 g3 ls.length) c5 (hs 6720064448 g1 (F+1)))))/\
  ao 6720064448=(g1,some (.arr 3 1 (nP (counts ls F))))/\ao 6720128448=(g2,some (.arr 4 1 (bP (nj ls))))/\ao 6720192448=(g3,some (.arr 3 1 (nP (iN ls k))))/\
  ao 6720832384=(g4,some (.arr 3 1 (nP (Gv ls F))))/\ao 6721344128=((aj 6721344128).1+1,some (.arr 3 1 (nP (qP ls (fj ls (F+1)) k))))/\ao 6721408064=((aj 6721408064).1+1,some (.arr 4 1 (bP (vt ls (fj ls (F+1)) k))))/\
  (∀i,i<k->rB ls i=true)/\Kept FK nh ao) 0 ls.length (bn _) ?_ ?_
 .simp only[go_sem,h0,h6,bC,bW,ng,bF,ag1,aq8,UG,Xl];refine⟨rfl,rfl,fun i h=>absurd h (mv i),?_⟩;repeat(first|exact hk|refine Kept.df ?_ (by first|exact Or.inl rfl|exact Or.inr rfl) _)
 rintro k ak ao hk ⟨h0,h6,dC,JW,GH,Ck,bD,bC,bW,ng,bF,bA,bT,aq,cT⟩
 by_cases au:k<ls.length
 .obtain⟨l,dN⟩:=aN au;have hi:=gE dN;have aL:((k:Int)<(ls.length:Int)):=aa;have w1:=bQ (n:=k) aa;cases hp:(l.kind==1) with
  |false=>
   have gU:l.aG=false:=hp;have mh:(l.kind !=1)=true:=by simp[bne,hp]
   have jj:rB ls k=true:=by simp[rB,dN,gU]
   simp only[go_sem,i105_l3,h0,h6,dC,JW,GH,Ck,bD,bC,bW,bF,ng,bA,bT,hi,Let.ps,aL,mh,w1,o8];refine⟨au,?_,?_,?_,?_,?_⟩
   .rw[anU dN gU]
   .rw[ag0 dN gU]
   .rw[aq7 dN gU]
   .intro i hi;rcases kB.1 hi with h|rfl
    .exact aq i h
    exact jj
   repeat(first|exact cT|refine Kept.df ?_ (by first|exact Or.inl rfl|exact Or.inr rfl) _)
  |true=>
   have gU:l.aG=true:=hp;have mh:(l.kind !=1)=false:=by simp[bne,hp]
   obtain⟨A6,A7⟩:=hg l (aW dN) gU;obtain⟨G,hG⟩:=tu A6;have GI:G<=F:=aa;have Eg:G<F+1:=aa;have uZ:=ia (MD (ls:=ls) GI);have wg:=ia (ajC (ls:=ls) GI);have oz:l.gate.toNat=G:=aa;cases r1:decide (l.aw<1) with
   |true=>have qJ:l.aw<1:=qk r1;have r1n:¬1<=l.aw:=aa;have dm:=Vi au (show rB ls k=false by simp[rB,dN,gU,r1n]);simp only[go_sem,i105_l3,JW,GH,Ck,hi,Let.ps,aL,mh,qJ,o8];refine⟨aH,?_⟩;unfold Ia;refine⟨by rw[dm],?_,fun h=>by rw[dm] at h;cases h⟩;repeat(first|exact cT|refine Kept.df ?_ (by first|exact Or.inl rfl|exact Or.inr rfl) _)
   |false=>
    have qJ:¬l.aw<1:=fK r1;obtain⟨R,hR⟩:=tu (show 0<=l.aw by omega);have r1R:¬((R:Int)<1):=aa;cases r2:decide ((cg ls G:Int)<(R:Int)) with
    |true=>
     have rA:(cg ls G:Int)<(R:Int):=qk r2;have r2n:¬l.aw<=(cg ls l.gate.toNat:Int):=by rw[oz];omega
     have dm:=Vi au (show rB ls k=false by simp[rB,dN,gU,r2n]);simp only[go_sem,i105_l3,h0,JW,GH,Ck,bD,bC,hi,Let.ps,aL,mh,hR,hG,r1R,rA,uZ,Eg,okD,o1,o8];refine⟨aH,?_⟩;unfold Ia;refine⟨by rw[dm],?_,fun h=>by rw[dm] at h;cases h⟩;repeat(first|exact cT|refine Kept.df ?_ (by first|exact Or.inl rfl|exact Or.inr rfl) _)
    |false=>
     have rA:¬(cg ls G:Int)<(R:Int):=fK r2;have hfle:=S7 ls G;have hmono:=yO (ls:=ls) (show G+1<=F+1 by omega);have u4:=rT ls G;have hPT:dE ls l<fj ls (F+1):=by unfold dE;rw[oz];omega
     have bG:fj ls G+R-1=dE ls l:=by unfold dE;rw[oz];omega
     have dM:cg ls G<=ls.length:=qt _ _;have w2:=wrap_add (a:=fj ls G) (b:=R) aa;have w3:=DB (a:=fj ls G+R) aa aa;rw[bG] at w3;have EE:=qo (aq5 (ls:=ls) (k:=k) hPT);cases hu:(List.range k).any (qY ls (dE ls l)) with
     |true=>rw[hu] at EE;have dm:=Vi au (show rB ls k=false by simp[rB,dN,gU,hu]);simp only[go_sem,i105_l3,h0,h6,dC,JW,GH,Ck,bD,bC,bF,bT,hi,Let.ps,aL,mh,hR,hG,r1R,rA,uZ,wg,Eg,w2,w3,EE,hPT,okD,o1,o5,o7,o8];refine⟨aH,aH,?_⟩;unfold Ia;refine⟨by rw[dm],?_,fun h=>by rw[dm] at h;cases h⟩;repeat(first|exact cT|refine Kept.df ?_ (by first|exact Or.inl rfl|exact Or.inr rfl) _)
     |false=>
      rw[hu] at EE;have jj:rB ls k=true:=by
       have e1:1<=l.aw:=aa;have e2:l.aw<=(cg ls l.gate.toNat:Int):=by rw[oz];omega
       simp[rB,dN,e1,e2,hu]
      obtain⟨a0,uX⟩:=aN (show dE ls l<(qP ls (fj ls (F+1)) k).length by rw[Xf];exact hPT);obtain⟨p0,vc⟩:=aN (show k<(iN ls k).length by rw[anT];exact au);have uX:=ia uX;have vc:=ia vc;have s1:=F4 (vt ls (fj ls (F+1)) k) (dE ls l) true;rw[<- aq6 dN gU] at s1;have s2:=HG (qP ls (fj ls (F+1)) k) (dE ls l) k;rw[<- agZ dN gU hu] at s2;have s3:=HG (iN ls k) k (dE ls l);rw[<- anS dN gU] at s3;simp only[go_sem,i105_l3,h0,h6,dC,JW,GH,Ck,bD,bC,bW,bF,ng,bA,bT,hi,Let.ps,aL,au,mh,w1,hR,hG,r1R,rA,uZ,wg,Eg,w2,w3,EE,hPT,uX,vc,s1,s2,s3,okD,o1,o3,o5,o6,o7,o8];refine⟨aH,aH,aH,?_,?_⟩
      .intro i hi;rcases kB.1 hi with h|rfl
       .exact aq i h
       exact jj
      repeat(first|exact cT|refine Kept.df ?_ (by first|exact Or.inl rfl|exact Or.inr rfl) _)
 have:k=ls.length:=aa;subst this;have hr:=aoM aq;simp only[go_sem,i105_l3,i105_r4,GH,Ck,dI];exact⟨by rw[hr],cT,fun _=>⟨g1,g2,g3,(aj 6721344128).1+1,bD,bC,bW,ng,bA⟩⟩
theorem rk2{al:Al}(okD:al.ok 2432320128=true)(ok:∀id,mr id=105->al.ok id=true){nh aj:aA}{ak:Env}{g g1 g2 g3 F:Nat}{ls:List Let}{c3 c5:C}(hl:ls.length<=1000000)(hF:F<=1000000)(hg:pJ F ls)
  (h0:ak 0=.one (.ba 2432320128 g 0))
  (bD:aj 2432320128=(g,some (.var (tM F ls (hs 6720128448 g2 ls.length) c3 (hs 6720192448 g3 ls.length) c5 (hs 6720064448 g1 (F+1))))))
  (bC:aj 6720064448=(g1,some (.arr 3 1 (nP (counts ls F))))) (bW:aj 6720128448=(g2,some (.arr 4 1 (bP (nj ls))))) (ng:aj 6720192448=(g3,some (.arr 3 1 (nP (iN ls 0)))))
  (hk:Kept FK nh aj):W S al i105_r6 (qT al [(2,none)] (Ia F ls g c5 nh)) ak aj:=by
 have o1:=ok 6720064448 rfl;have o2:=ok 6720128448 rfl;have o3:=ok 6720192448 rfl;have o4:=ok 6720448192 rfl;have o5:=ok 6720832384 rfl;have o6:=ok 6721344128 rfl;have o7:=ok 6721408064 rfl;have o8:=ok 6721600192 rfl;have KP:(F+1)*8<=140737488355328:=aa;have wF:=bQ (n:=F) aa;simp only[go_sem,i105_r6,h0,bD,wF,KP,okD,o5];refine cS (fun k ak ao=>ak 0=.one (.ba 2432320128 g 0)/\ak 6=.one (hs 6720832384 ((aj 6720832384).1+1) (F+1))/\ak 7=vi (fj ls k)/\ak 88=.one (hs 6720064448 g1 (F+1))/\ak 89=vi ((F+1:Nat):Int)/\ak 90=vi k/\
  ao 2432320128=(g,some (.var (tM F ls (hs 6720128448 g2 ls.length) c3 (hs 6720192448 g3 ls.length) c5 (hs 6720064448 g1 (F+1)))))/\
  ao 6720064448=(g1,some (.arr 3 1 (nP (counts ls F))))/\ao 6720128448=(g2,some (.arr 4 1 (bP (nj ls))))/\ao 6720192448=(g3,some (.arr 3 1 (nP (iN ls 0))))/\
  ao 6720832384=((aj 6720832384).1+1,some (.arr 3 1 (nP (uQ ls F k))))/\Kept FK nh ao) 0 (F+1) (bn _) ?_ ?_
 .simp only[go_sem,h0,bD,bC,bW,ng,ajB,UG];refine⟨rfl,rfl,rfl,?_⟩;repeat(first|exact hk|refine Kept.df ?_ (by first|exact Or.inl rfl|exact Or.inr rfl) _)
 rintro k ak ao hk ⟨h0,h6,h7,h88,h89,h90,bD,bC,bW,ng,bF,cT⟩
 by_cases au:k<F+1
 .have aL:((k:Int)<((F+1:Nat):Int)):=aa;have w1:=bQ (n:=k) aa;have hc:=ia (MD (ls:=ls) (show k<=F by omega));obtain⟨a0,ha⟩:=aN (show k<(uQ ls F k).length by rw[ajz];exact au);have ha:=ia ha;have s1:=HG (uQ ls F k) k (fj ls k);rw[<- ajA] at s1;have hs:=rT ls k;have hle:=S7 ls (k+1);have w2:=wrap_add (a:=fj ls k) (b:=cg ls k) aa;rw[<- hs] at w2;simp only[go_sem,i105_l2,h0,h6,h7,h88,h89,h90,bD,bC,bW,ng,bF,au,aL,hc,ha,s1,w1,w2,o1,o5];repeat(first|exact cT|refine Kept.df ?_ (by first|exact Or.inl rfl|exact Or.inr rfl) _)
 have:k=F+1:=aa;subst this;simp only[go_sem,i105_l2,h89,h90,dI];exact rk3 okD ok hl hF hg h0 h6 h7 bD bC bW ng (by rw[bF,ajy]) cT
theorem aoL{al:Al}(okD:al.ok 2432320128=true)(ok:∀id,mr id=105->al.ok id=true){aj:aA}{g F:Nat}{ls:List Let}{c2 c3 c4 c5 c6:C}(hl:ls.length<=1000000)(hF:F<=1000000)(hg:pJ F ls)
  (bD:aj 2432320128=(g,some (.var (tM F ls c2 c3 c4 c5 c6)))):∃v ao,iA S 105 [.one (.ba 2432320128 g 0)] al aj v ao/\Ia F ls g c5 aj v ao:=by
 have o1:=ok 6720064448 rfl;have o2:=ok 6720128448 rfl;have o3:=ok 6720192448 rfl;have o4:=ok 6720448192 rfl;have o5:=ok 6720832384 rfl;have o6:=ok 6721344128 rfl;have o7:=ok 6721408064 rfl;have o8:=ok 6721600192 rfl;refine mz c105 (gj rfl) ?_;have KP:(F+1)*8<=140737488355328:=aa;have hn8:ls.length*8<=140737488355328:=aa;have gM:ls.length<=140737488355328:=aa;have wF:=bQ (n:=F) aa;simp only[go_sem,i105,bD,wF,KP,hn8,gM,okD,o1,o2,o3];refine cS (fun k ak ao=>ak 0=.one (.ba 2432320128 g 0)/\ak 3=vb (dn ls k)/\ak 48=.one (.p (hU ls))/\ak 49=vi ls.length/\ak 50=vi k/\
  ao 2432320128=(g,some (.var (tM F ls (hs 6720128448 ((aj 6720128448).1+1) ls.length) c3 (hs 6720192448 ((aj 6720192448).1+1) ls.length) c5 (hs 6720064448 ((aj 6720064448).1+1) (F+1)))))/\
  ao 6720064448=((aj 6720064448).1+1,some (.arr 3 1 (nP (qu ls F k))))/\ao 6720128448=((aj 6720128448).1+1,some (.arr 4 1 (bP (rO ls k))))/\ao 6720192448=((aj 6720192448).1+1,some (.arr 3 1 (nP (iN ls 0))))/\
  Kept FK aj ao) 0 ls.length (bn _) ?_ ?_
 .simp only[go_sem,bD,QB,aiF,anV,UG,Xl];refine⟨rfl,rfl,rfl,rfl,?_⟩;repeat(first|exact(Kept.refl _ _)|refine Kept.df ?_ (by first|exact Or.inl rfl|exact Or.inr rfl) _)
 rintro k ak ao hk ⟨h0,h3,Ka,h49,h50,bD,bC,bW,ng,cT⟩
 by_cases au:k<ls.length
 .obtain⟨l,dN⟩:=aN au;have hi:=gE dN;have aL:((k:Int)<(ls.length:Int)):=aa;have w1:=bQ (n:=k) aa;cases hp:(l.kind==1) with
  |false=>
   have gU:l.aG=false:=hp;simp only[go_sem,i105_l1,h0,h3,Ka,h49,h50,bD,bC,bW,ng,hi,Let.ps,aL,hp,w1,o4];refine⟨au,?_,?_,?_,?_⟩
   .rw[Jt dN gU]
   .rw[XY dN gU]
   .rw[aiE dN gU]
   repeat(first|exact cT|refine Kept.df ?_ (by first|exact Or.inl rfl|exact Or.inr rfl) _)
  |true=>have gU:l.aG=true:=hp;obtain⟨A6,A7⟩:=hg l (aW dN) gU;obtain⟨G,hG⟩:=tu A6;have GI:G<=F:=aa;have Eg:G<F+1:=aa;have uZ:=ia (XW (ls:=ls) (k:=k) GI);have dM:cg (ls.take k) G<=k:=xv _ _ _;have w2:=bQ (n:=cg (ls.take k) G) aa;have s1:=HG (qu ls F k) G (cg (ls.take k) G+1);rw[<- XX dN gU hG] at s1;obtain⟨b0,hb⟩:=aN (show k<(rO ls k).length by rw[aiD];exact au);have hb:=qo hb;have s2:=F4 (rO ls k) k (dn ls k);rw[<- aiC dN gU] at s2;have hd:=Js dN gU;simp only[go_sem,i105_l1,h0,h3,Ka,h49,h50,bD,bC,bW,ng,hi,Let.ps,aL,au,hp,w1,hG,uZ,Eg,w2,s1,hb,s2,hd,okD,o1,o2,o4];refine⟨aH,?_⟩;repeat(first|exact cT|refine Kept.df ?_ (by first|exact Or.inl rfl|exact Or.inr rfl) _)
 have:k=ls.length:=aa;subst this;simp only[go_sem,i105_l1,h49,h50,dI];exact rk2 okD ok hl hF hg h0 bD (by rw[bC,QA]) (by rw[bW,aiB]) ng cT
def pM(ls:List Let)(id:Int)(o:Bool)(j:Nat):Bool:=match ls[j]? with|some m=>m.aB&&(m.id==id&&m.over==o)|none=>false
def fy(ls:List Let)(k:Nat)(id:Int)(o:Bool):Option Nat:=(List.range k).find? (pM ls id o)
def zT:Option Nat->Int
 |some j=>j
 |none=> -1
def eB(ls:List Let):Nat->List Int
 |0=>[]
 |k+1=>match ls[k]? with
  |some l=>if l.aB&& !(eB ls k).contains l.id then eB ls k++[l.id] else eB ls k
  |none=>eB ls k
def pG(ls:List Let)(k:Nat)(id:Int):List PV:=[.int .i64 (zT (fy ls k id false)),.int .i64 (zT (fy ls k id true))]
def nK(ls:List Let)(k:Nat):List (PV×List PV):=(eB ls k).map fun id=>(PV.int .i64 id,pG ls k id)
def Bu(ls:List Let)(j:Nat):Int:=((ls[j]?).map Let.sign).getD 0
def kV(ls:List Let)(n2:Nat)(k:Nat):Bool:=match ls[k]? with
 |some l=> !l.aB||((decide (1<=l.id)&&decide (l.id<=(n2:Int)))&&((fy ls k l.id l.over).isNone&&(match fy ls k l.id (!l.over) with|some j=>Bu ls j==l.sign|none=>true)))
 |none=>true
def kr(ls:List Let):Bool:=(ay Let.aB ls%2==0)&&(List.range ls.length).all (kV ls (ay Let.aB ls/2))&&((eB ls ls.length).length==ay Let.aB ls/2)
theorem GY{ls:List Let}{k:Nat}{l:Let}(h:ls[k]?=some l)(hc:l.aB=true)(id:Int)(o:Bool):pM ls id o k=(l.id==id&&l.over==o):=by simp[pM,h,hc]
theorem aaT{ls:List Let}{k:Nat}{l:Let}(h:ls[k]?=some l)(hc:l.aB=false)(id:Int)(o:Bool):pM ls id o k=false:=by simp[pM,h,hc]
theorem Pb(ls:List Let)(k:Nat)(id:Int)(o:Bool):fy ls (k+1) id o=(fy ls k id o).or (if pM ls id o k then some k else none):=by simp only[fy,rH,afF,Pv,List.find?_nil];cases pM ls id o k<;>rfl
theorem Fp{ls:List Let}{k:Nat}{id:Int}{o:Bool}{j:Nat}(h:fy ls k id o=some j):j<k/\pM ls id o j=true:=
 ⟨fJ.1 (IT h),Px h⟩
theorem yX{ls:List Let}{id:Int}{o:Bool}{j:Nat}(h:pM ls id o j=true):∃m,ls[j]?=some m/\m.aB=true/\m.id=id/\m.over=o:=by
 unfold pM at h;split at h
 .rename_i m hm;simp only[cE,dk] at h;exact⟨m,hm,h.1,h.2.1,h.2.2⟩
 cases h
theorem LY{ls:List Let}{k:Nat}{id:Int}{o:Bool}(h:fy ls k id o=none){j:Nat}(hj:j<k):pM ls id o j=false:=by
 have:=IM.1 h j (fJ.2 hj)
 simpa using this
theorem abb{ls:List Let}{k:Nat}{l:Let}(h:ls[k]?=some l)(hc:l.aB=false):eB ls (k+1)=eB ls k:=by simp[eB,h,hc]
theorem abc{ls:List Let}{k:Nat}{l:Let}(h:ls[k]?=some l)(hc:l.aB=true)(hn:l.id∉eB ls k):eB ls (k+1)=eB ls k++[l.id]:=by simp[eB,h,hc,hn]
theorem abd{ls:List Let}{k:Nat}{l:Let}(h:ls[k]?=some l)(hn:l.id∈eB ls k):eB ls (k+1)=eB ls k:=by simp[eB,h,hn]
theorem amU{ls:List Let}{k:Nat}{l:Let}(h:ls[k]?=some l)(hc:l.aB=false):nK ls (k+1)=nK ls k:=by unfold nK pG;rw[abb h hc];simp[Pb,aaT h hc]
theorem alw{ls:List Let}{id:Int}:∀(k:Nat),k<=ls.length->(id∈eB ls k↔ ∃j o,j<k/\pM ls id o j=true):=by
 intro k
 induction k with
 |zero=>intro _;simp[eB]
 |succ k ih=>
  intro hk;obtain⟨l,hl⟩:=aN (show k<ls.length by omega);have ih:=ih aa;have old:(∃j o,j<k/\pM ls id o j=true)->∃j o,j<k+1/\pM ls id o j=true:=fun⟨j,o,h1,h2⟩=>⟨j,o,aa,h2⟩;cases hc:l.aB with
  |false=>
   rw[abb hl hc,ih];refine⟨old,?_⟩;rintro ⟨j,o,h1,h2⟩
   rcases kB.1 h1 with h|rfl
   .exact⟨j,o,h,h2⟩
   rw[aaT hl hc] at h2;cases h2
  |true=>
   have key:id∈eB ls (k+1)↔(id∈eB ls k\/id=l.id):=by
    by_cases hm:l.id∈eB ls k
    .rw[abd hl hm];exact⟨Or.inl,fun h=>h.elim ez (fun e=>e▸hm)⟩
    rw[abc hl hc hm];simp
   rw[key,ih];constructor
   .rintro (h|rfl)
    .exact old h
    exact⟨k,l.over,aa,by rw[GY hl hc];simp⟩
   rintro ⟨j,o,h1,h2⟩
   rcases kB.1 h1 with h|rfl
   .exact Or.inl ⟨j,o,h,h2⟩
   rw[GY hl hc] at h2;simp only[cE,dk] at h2;exact Or.inr h2.1.symm
where ez {p:Prop} (h:p):p:=h
theorem EM{ls:List Let}{id:Int}{k:Nat}(h:k<=ls.length):id∈eB ls k↔ ∃j o,j<k/\pM ls id o j=true:=alw k h
theorem NK(ls:List Let):∀k,(eB ls k).Nodup:=by
 intro k
 induction k with
 |zero=>simp[eB]
 |succ k ih=>
  unfold eB;split
  .split
   .rename_i h;simp only[cE,kW,L8,decide_eq_false_iff_not] at h;rw[FD];refine⟨ih,af,?_⟩;intro a ha b hb;simp only[rF] at hb;subst hb;rintro rfl
    exact h.2 ha
   exact ih
  exact ih
theorem arD{ls:List Let}{k:Nat}(hk:k<=ls.length){id:Int}(h:id∉eB ls k)(o:Bool):fy ls k id o=none:=by
 cases hv:fy ls k id o with
 |none=>rfl
 |some j=>obtain⟨h1,h2⟩:=Fp hv;exact absurd ((EM hk).2 ⟨j,o,h1,h2⟩) h
theorem afh{ls:List Let}{k:Nat}(hk:k<=ls.length){id:Int}(h:id∈eB ls k)(o:Bool)(hn:fy ls k id o=none):∃j m,fy ls k id (!o)=some j/\ls[j]?=some m/\j<k:=by
 obtain⟨j,o',h1,h2⟩:=(EM hk).1 h;by_cases e:o'=o
 .subst e;rw[LY hn h1] at h2;cases h2
 have e:o'= !o:=by cases o<;>cases o'<;>simp_all
 subst e;cases hv:fy ls k id (!o) with
 |none=>rw[LY hv h1] at h2;cases h2
 |some i=>obtain⟨h3,h4⟩:=Fp hv;obtain⟨m,hm,_⟩:=yX h4;exact⟨i,m,rfl,hm,h3⟩
theorem afi{ls:List Let}{k:Nat}{l:Let}(h:ls[k]?=some l)(hc:l.aB=true){id:Int}(hn:¬l.id=id)(o:Bool):fy ls (k+1) id o=fy ls k id o:=by rw[Pb,GY h hc];simp[hn]
theorem VT{ls:List Let}{k:Nat}{l:Let}(h:ls[k]?=some l)(hc:l.aB=true)(hn:fy ls k l.id l.over=none):fy ls (k+1) l.id l.over=some k:=by rw[Pb,GY h hc,hn];simp
theorem VS{ls:List Let}{k:Nat}{l:Let}(h:ls[k]?=some l)(hc:l.aB=true):fy ls (k+1) l.id (!l.over)=fy ls k l.id (!l.over):=by rw[Pb,GY h hc];cases l.over<;>simp
theorem Yr{ls:List Let}{k:Nat}{l:Let}(h:ls[k]?=some l)(hc:l.aB=true){id:Int}(hn:¬l.id=id):pG ls (k+1) id=pG ls k id:=by unfold pG;rw[afi h hc hn,afi h hc hn]
theorem amV{ls:List Let}{k:Nat}{l:Let}(h:ls[k]?=some l)(hc:l.aB=true)(hn:l.id∉eB ls k):nK ls (k+1)=nK ls k++[(.int .i64 l.id,pG ls (k+1) l.id)]:=by unfold nK;rw[abc h hc hn,km];congr 1;apply zW;intro id hid;rw[Yr h hc (by rintro rfl;exact hn hid)]
theorem amW{ls:List Let}{k:Nat}{l:Let}(h:ls[k]?=some l)(hc:l.aB=true)(hn:l.id∈eB ls k):nK ls (k+1)=(nK ls k).set ((eB ls k).idxOf l.id) (.int .i64 l.id,pG ls (k+1) l.id):=by
 unfold nK;rw[abd h hn];apply vx
 .simp
 intro i h1 h2;rw[IQ];simp only[cG] at h1;by_cases e:(eB ls k).idxOf l.id=i
 .subst e;simp only[BI,aE,List.getElem_idxOf]
 rw[aD e];simp only[BI];rw[Yr h hc];intro e2;apply e;rw[e2];exact(NK ls k).idxOf_getElem i h1
theorem ZO(ls:List Let)(k:Nat)(q:Int):uP (.int .i64 q) (nK ls k) 0=some (if q∈eB ls k then some ((eB ls k).idxOf q,pG ls k q) else none):=by unfold nK;rw[ajw];simp
theorem Gg{ls:List Let}{k:Nat}(hk:k<ls.length)(h:kV ls (ay Let.aB ls/2) k=false):kr ls=false:=by have:(List.range ls.length).all (kV ls (ay Let.aB ls/2))=false:=Wf.2 ⟨k,fJ.2 hk,by simp[h]⟩;simp[kr,this]
theorem QF{ls:List Let}(he:ay Let.aB ls%2=0)(h:∀i,i<ls.length->kV ls (ay Let.aB ls/2) i=true):kr ls=((eB ls ls.length).length==ay Let.aB ls/2):=by have:(List.range ls.length).all (kV ls (ay Let.aB ls/2))=true:=ij.2 fun i hi=>h i (fJ.1 hi);simp[kr,this,he]
abbrev WA(id:Nat):Prop:=id=2432320128\/mr id=106
def Fv(F:Nat)(ls:List Let)(g:Nat)(c2 c3 c4 c6:C)(nh:aA)(v:V)(ao:aA):Prop:=v=vb (kr ls)/\Kept WA nh ao/\(kr ls=true->∃g1,ao 2432320128=(g,some (.var (tM F ls c2 c3 c4 (.jP 6784256064 g1) c6)))/\ao 6784256064=(g1,some (.map true (nK ls ls.length))))
theorem ge0(j:Nat):decide ((0:Int)<=(j:Int))=true:=BP aa
theorem wr0:IntKind.i64.wrap 0=0:=ae
theorem wr1:IntKind.i64.wrap 1=1:=ae
theorem HH:((-1:Int)≥0)=False:=af
theorem neg1':((0:Int)<= -1)=False:=af
theorem ais{al:Al}(okD:al.ok 2432320128=true)(ok:∀id,mr id=106->al.ok id=true){aj:aA}{g F:Nat}{ls:List Let}{c2 c3 c4 c5 c6:C}(hl:ls.length<=1000000)
  (bD:aj 2432320128=(g,some (.var (tM F ls c2 c3 c4 c5 c6)))):∃v ao,iA S 106 [.one (.ba 2432320128 g 0)] al aj v ao/\Fv F ls g c2 c3 c4 c6 aj v ao:=by
 have o1:=ok 6784256064 rfl;have o2:=ok 6784448192 rfl;have o3:=ok 6784704640 rfl;refine mz c106 (gj rfl) ?_;have pc:=QH F ls hl;have dM:ay Let.aB ls<=ls.length:=qt _ _;cases he:(((ay Let.aB ls%2:Nat):Int)!=0) with
 |true=>
  have dm:kr ls=false:=by
   have:(ay Let.aB ls%2==0)=false:=by simp at he ⊢;omega
   simp[kr,this]
  simp only[go_sem,i106,bD,s75,JQ pc,ig,dF,he,okD];exact⟨by rw[dm],Kept.refl _ _,fun h=>by rw[dm] at h;cases h⟩
 |false=>
  have he0:ay Let.aB ls%2=0:=by simp at he;omega
  simp only[go_sem,i106,bD,s75,JQ pc,ig,dF,he,okD,o1];refine cS (fun k ak ao=>ak 0=.one (.ba 2432320128 g 0)/\ak 3=vi (ay Let.aB ls)/\ak 25=.one (.p (hU ls))/\ak 26=vi ls.length/\ak 27=vi k/\
   ao 2432320128=(g,some (.var (tM F ls c2 c3 c4 (.jP 6784256064 ((aj 6784256064).1+1)) c6)))/\ao 6784256064=((aj 6784256064).1+1,some (.map true (nK ls k)))/\
   (∀i,i<k->kV ls (ay Let.aB ls/2) i=true)/\Kept WA aj ao) 0 ls.length (bn _) ?_ ?_
  .simp only[go_sem,bD];refine⟨rfl,rfl,fun i h=>absurd h (mv i),?_⟩;repeat(first|exact(Kept.refl _ _)|refine Kept.df ?_ (by first|exact Or.inl rfl|exact Or.inr rfl) _)
  rintro k ak ao hk ⟨h0,h3,rY,vP,vQ,bD,bM,aq,cT⟩
  have wq:IntKind.i64.wrap ((ay Let.aB ls/2:Nat):Int)=((ay Let.aB ls/2:Nat):Int):=wrap_small aa;by_cases au:k<ls.length
  .obtain⟨l,dN⟩:=aN au;have hi:=gE dN;have aL:((k:Int)<(ls.length:Int)):=aa;have w1:=bQ (n:=k) aa;cases hc:(l.kind==2) with
   |false=>
    have jN:l.aB=false:=hc;have hp:(l.kind !=2)=true:=by simp[bne,hc]
    have jj:kV ls (ay Let.aB ls/2) k=true:=by simp[kV,dN,jN]
    simp only[go_sem,i106_l1,h0,h3,rY,vP,vQ,bD,bM,hi,Let.ps,aL,hp,w1,o2];refine⟨au,?_,?_,?_⟩
    .rw[amU dN jN]
    .intro i hi;rcases kB.1 hi with h|rfl
     .exact aq i h
     exact jj
    repeat(first|exact cT|refine Kept.df ?_ (by first|exact Or.inl rfl|exact Or.inr rfl) _)
   |true=>
    have jN:l.aB=true:=hc;have hp:(l.kind !=2)=false:=by simp[bne,hc]
    cases r1:decide (l.id<1) with
    |true=>have qJ:l.id<1:=qk r1;have r1n:¬1<=l.id:=aa;have dm:=Gg au (show kV ls (ay Let.aB ls/2) k=false by simp[kV,dN,jN,r1n]);simp only[go_sem,i106_l1,rY,vP,vQ,hi,Let.ps,aL,hp,qJ,o2];unfold Fv;refine⟨by rw[dm],?_,fun h=>by rw[dm] at h;cases h⟩;repeat(first|exact cT|refine Kept.df ?_ (by first|exact Or.inl rfl|exact Or.inr rfl) _)
    |false=>
     have qJ:¬l.id<1:=fK r1;have r1y:1<=l.id:=aa;cases r2:decide (((ay Let.aB ls/2:Nat):Int)<l.id) with
     |true=>have rA:((ay Let.aB ls/2:Nat):Int)<l.id:=qk r2;have r2n:¬l.id<=((ay Let.aB ls/2:Nat):Int):=aa;have dm:=Gg au (show kV ls (ay Let.aB ls/2) k=false by simp only[kV,dN,jN,r2n];simp);simp only[go_sem,i106_l1,h3,rY,vP,vQ,hi,Let.ps,aL,hp,qJ,rA,eL,dF,wq,o2];unfold Fv;refine⟨by rw[dm],?_,fun h=>by rw[dm] at h;cases h⟩;repeat(first|exact cT|refine Kept.df ?_ (by first|exact Or.inl rfl|exact Or.inr rfl) _)
     |false=>
      have rA:¬((ay Let.aB ls/2:Nat):Int)<l.id:=fK r2;have r2y:l.id<=((ay Let.aB ls/2:Nat):Int):=aa;have hf:=ZO ls k l.id;have ml:kV ls (ay Let.aB ls/2) k=((fy ls k l.id l.over).isNone&&(match fy ls k l.id (!l.over) with|some j=>Bu ls j==l.sign|none=>true)):=by simp only[kV,dN,jN,r1y,r2y,decide_true];rfl
      by_cases hm:l.id∈eB ls k
      .rw[aE hm] at hf;obtain⟨e0,hse⟩:=aN (show(eB ls k).idxOf l.id<(nK ls k).length by simp[nK];exact List.idxOf_lt_length_of_mem hm);have za:=amW dN jN hm;have Kr:pG ls k l.id=[.int .i64 (zT (fy ls k l.id false)),.int .i64 (zT (fy ls k l.id true))]:=rfl;rw[Kr] at hf;cases ho:l.over with
       |true=>
        cases hv:fy ls k l.id true with
        |some j=>have dm:=Gg au (show kV ls (ay Let.aB ls/2) k=false by rw[ml,ho,hv];rfl);rw[hv] at hf;simp only[zT] at hf;simp only[go_sem,i106_l1,h0,h3,rY,vP,vQ,bD,bM,hi,Let.ps,aL,hp,qJ,rA,eL,dF,wq,hf,ho,ge0,mapOf,mapVal,iK,Int.reduceNeg,okD,o1,o2,o3];refine⟨aH,aH,?_⟩;unfold Fv;refine⟨by rw[dm],?_,fun h=>by rw[dm] at h;cases h⟩;repeat(first|exact cT|refine Kept.df ?_ (by first|exact Or.inl rfl|exact Or.inr rfl) _)
        |none=>
         obtain⟨j,m,hj,Eu,hjk⟩:=afh hk hm true hv;have hj:fy ls k l.id false=some j:=hj;have A9:=gE Eu;have Hj:Bu ls j=m.sign:=by simp[Bu,Eu]
         rw[hv,hj] at hf;simp only[zT] at hf;cases hs:(m.sign==l.sign) with
         |false=>
          have eW:(m.sign !=l.sign)=true:=by simp[bne,hs]
          have dm:=Gg au (show kV ls (ay Let.aB ls/2) k=false by rw[ml,ho,hv];simp only[zV,hj,Hj,hs];rfl);simp only[go_sem,i106_l1,h0,h3,rY,vP,vQ,bD,bM,hi,Let.ps,aL,hp,qJ,rA,eL,dF,wq,hf,ho,HH,A9,eW,wr0,mapOf,mapVal,iK,Int.reduceNeg,Int.reduceSub,okD,o1,o2,o3];refine⟨aH,aH,?_⟩;unfold Fv;refine⟨by rw[dm],?_,fun h=>by rw[dm] at h;cases h⟩;repeat(first|exact cT|refine Kept.df ?_ (by first|exact Or.inl rfl|exact Or.inr rfl) _)
         |true=>
          have eW:(m.sign !=l.sign)=false:=by simp[bne,hs]
          have jj:kV ls (ay Let.aB ls/2) k=true:=by rw[ml,ho,hv];simp only[zV,hj,Hj,hs];rfl
          have pR:=VT dN jN (show fy ls k l.id l.over=none by rw[ho];exact hv);have ve:=VS dN jN;rw[ho] at pR ve;rw[show fy ls k l.id (!true)=some j from hj] at ve;have TA:pG ls (k+1) l.id=[.int .i64 (j:Int),.int .i64 (k:Int)]:=by simp only[pG];rw[pR,show fy ls (k+1) l.id false=some j from ve];rfl
          rw[TA] at za;simp only[go_sem,i106_l1,h0,h3,rY,vP,vQ,bD,bM,hi,Let.ps,aL,hp,w1,qJ,rA,eL,dF,wq,hf,ho,HH,A9,eW,wr0,mapOf,mapVal,iK,Ap,Int.reduceNeg,Int.reduceSub,okD,o1,o2,o3];refine⟨aH,aH,aH,?_⟩;refine⟨au,?_,?_,?_⟩
          .rw[za]
          .intro i hi;rcases kB.1 hi with h|rfl
           .exact aq i h
           exact jj
          repeat(first|exact cT|refine Kept.df ?_ (by first|exact Or.inl rfl|exact Or.inr rfl) _)
       |false=>
        cases hv:fy ls k l.id false with
        |some j=>have dm:=Gg au (show kV ls (ay Let.aB ls/2) k=false by rw[ml,ho,hv];rfl);rw[hv] at hf;simp only[zT] at hf;simp only[go_sem,i106_l1,h0,h3,rY,vP,vQ,bD,bM,hi,Let.ps,aL,hp,qJ,rA,eL,dF,wq,hf,ho,ge0,mapOf,mapVal,iK,Int.reduceNeg,okD,o1,o2,o3];refine⟨aH,aH,?_⟩;unfold Fv;refine⟨by rw[dm],?_,fun h=>by rw[dm] at h;cases h⟩;repeat(first|exact cT|refine Kept.df ?_ (by first|exact Or.inl rfl|exact Or.inr rfl) _)
        |none=>
         obtain⟨j,m,hj,Eu,hjk⟩:=afh hk hm false hv;have hj:fy ls k l.id true=some j:=hj;have A9:=gE Eu;have Hj:Bu ls j=m.sign:=by simp[Bu,Eu]
         rw[hv,hj] at hf;simp only[zT] at hf;cases hs:(m.sign==l.sign) with
         |false=>
          have eW:(m.sign !=l.sign)=true:=by simp[bne,hs]
          have dm:=Gg au (show kV ls (ay Let.aB ls/2) k=false by rw[ml,ho,hv];simp only[L5,hj,Hj,hs];rfl);simp only[go_sem,i106_l1,h0,h3,rY,vP,vQ,bD,bM,hi,Let.ps,aL,hp,qJ,rA,eL,dF,wq,hf,ho,HH,A9,eW,wr1,mapOf,mapVal,iK,Int.reduceNeg,Int.reduceSub,okD,o1,o2,o3];refine⟨aH,aH,?_⟩;unfold Fv;refine⟨by rw[dm],?_,fun h=>by rw[dm] at h;cases h⟩;repeat(first|exact cT|refine Kept.df ?_ (by first|exact Or.inl rfl|exact Or.inr rfl) _)
         |true=>
          have eW:(m.sign !=l.sign)=false:=by simp[bne,hs]
          have jj:kV ls (ay Let.aB ls/2) k=true:=by rw[ml,ho,hv];simp only[L5,hj,Hj,hs];rfl
          have pR:=VT dN jN (show fy ls k l.id l.over=none by rw[ho];exact hv);have ve:=VS dN jN;rw[ho] at pR ve;rw[show fy ls k l.id (!false)=some j from hj] at ve;have TA:pG ls (k+1) l.id=[.int .i64 (k:Int),.int .i64 (j:Int)]:=by simp only[pG];rw[pR,show fy ls (k+1) l.id true=some j from ve];rfl
          rw[TA] at za;simp only[go_sem,i106_l1,h0,h3,rY,vP,vQ,bD,bM,hi,Let.ps,aL,hp,w1,qJ,rA,eL,dF,wq,hf,ho,HH,A9,eW,wr1,mapOf,mapVal,iK,Ap,Int.reduceNeg,Int.reduceSub,okD,o1,o2,o3];refine⟨aH,aH,aH,?_⟩;refine⟨au,?_,?_,?_⟩
          .rw[za]
          .intro i hi;rcases kB.1 hi with h|rfl
           .exact aq i h
           exact jj
          repeat(first|exact cT|refine Kept.df ?_ (by first|exact Or.inl rfl|exact Or.inr rfl) _)
      rw[aD hm] at hf;have hv:=arD hk hm;have y9:=amV dN jN hm;have jj:kV ls (ay Let.aB ls/2) k=true:=by rw[ml,hv,hv];rfl
      have pR:=VT dN jN (hv _);have ve:=VS dN jN;rw[hv] at ve;cases ho:l.over with
      |true=>
       rw[ho] at pR ve;have Kr:pG ls (k+1) l.id=[.int .i64 (-1),.int .i64 (k:Int)]:=by simp only[pG];rw[pR,show fy ls (k+1) l.id false=none from ve];rfl
       rw[Kr] at y9;simp only[go_sem,i106_l1,h0,h3,rY,vP,vQ,bD,bM,hi,Let.ps,aL,hp,w1,qJ,rA,eL,dF,wq,hf,ho,HH,mapOf,mapVal,iK,Ap,Option.map_none,Int.reduceNeg,okD,o1,o2,o3];refine⟨aH,aH,aH,?_⟩;refine⟨au,?_,?_,?_⟩
       .rw[y9]
       .intro i hi;rcases kB.1 hi with h|rfl
        .exact aq i h
        exact jj
       repeat(first|exact cT|refine Kept.df ?_ (by first|exact Or.inl rfl|exact Or.inr rfl) _)
      |false=>
       rw[ho] at pR ve;have Kr:pG ls (k+1) l.id=[.int .i64 (k:Int),.int .i64 (-1)]:=by simp only[pG];rw[pR,show fy ls (k+1) l.id true=none from ve];rfl
       rw[Kr] at y9;simp only[go_sem,i106_l1,h0,h3,rY,vP,vQ,bD,bM,hi,Let.ps,aL,hp,w1,qJ,rA,eL,dF,wq,hf,ho,HH,mapOf,mapVal,iK,Ap,Option.map_none,Int.reduceNeg,okD,o1,o2,o3];refine⟨aH,aH,aH,?_⟩;refine⟨au,?_,?_,?_⟩
       .rw[y9]
       .intro i hi;rcases kB.1 hi with h|rfl
        .exact aq i h
        exact jj
       repeat(first|exact cT|refine Kept.df ?_ (by first|exact Or.inl rfl|exact Or.inr rfl) _)
  have:k=ls.length:=aa;subst this;have hr:=QF he0 aq;have u9:(nK ls ls.length).length=(eB ls ls.length).length:=by simp[nK]
  have hb:((((eB ls ls.length).length:Nat):Int)==((ay Let.aB ls/2:Nat):Int))=((eB ls ls.length).length==ay Let.aB ls/2):=by
   cases h:((eB ls ls.length).length==ay Let.aB ls/2) with
   |true=>simp at h ⊢;omega
   |false=>simp at h ⊢;omega
  simp only[go_sem,i106_l1,i106_r2,h0,h3,vP,vQ,bD,bM,dI,zt,Int.reduceNeg,u9,eL,dF,wq,hb,okD,o1];exact⟨by rw[hr],cT,fun _=>⟨_,bD,bM⟩⟩
theorem DS{p:Let->Bool}{ls:List Let}{i:Nat}{l:Let}(h:ls[i]?=some l)(hp:p l=true):ay p ls=1↔ ∀j m,ls[j]?=some m->p m=true->j=i:=by
 obtain⟨hi,e⟩:=aY.1 h;have hs:ls=ls.take i++l::ls.drop (i+1):=by rw[<- e,w7];simp
 have hc:ay p ls=ay p (ls.take i)+(ay p (ls.drop (i+1))+1):=by
  conv=>lhs;rw[hs]
  simp[ay,vv,hp]
 constructor
 .intro h1 j m hj hm;have z1:ay p (ls.take i)=0:=aa;have z2:ay p (ls.drop (i+1))=0:=aa;have z1:=IL.1 z1;have z2:=IL.1 z2;rcases Mi j i with yZ|yZ|yZ
  .have:m∈ls.take i:=aW (i:=j) (by rw[jY,aE yZ,hj]);exact absurd hm (z1 m this)
  .exact yZ
  have:m∈ls.drop (i+1):=aW (i:=j-(i+1)) (by rw[wZ,show i+1+(j-(i+1))=j by omega,hj]);exact absurd hm (z2 m this)
 intro hu;have z1:ay p (ls.take i)=0:=by
  refine IL.2 fun m hm lH=>?_;obtain⟨j,hj⟩:=gH hm;have yZ:j<i:=by have:=(aY.1 hj).1;rw[iF] at this;omega
  rw[jY,aE yZ] at hj;have:=hu j m hj lH;omega
 have z2:ay p (ls.drop (i+1))=0:=by refine IL.2 fun m hm lH=>?_;obtain⟨j,hj⟩:=gH hm;rw[wZ] at hj;have:=hu _ m hj lH;omega
 omega
theorem ahZ{p:Let->Bool}{ls:List Let}(h:∀(i j:Nat) (l m:Let),ls[i]?=some l->ls[j]?=some m->p l=true->p m=true->i=j):ay p ls<=1:=by
 by_cases hz:ay p ls=0
 .omega
 have:0<ls.countP p:=Nat.pos_of_ne_zero hz;obtain⟨l,hl,hp⟩:=vw.1 this;obtain⟨i,hi⟩:=gH hl;have:=(DS hi hp).2 fun j m hj hm=>h j i m l hj hi hm hp;omega
structure rW (F:Nat) (ls:List Let) (l:Let):Prop where
 g0:0<=l.gate
 g1:l.gate<=(F:Int)
 r0:1<=l.aw
 r1:l.aw<=(cg ls l.gate.toNat:Int)
theorem Dl{ls:List Let}{l m:Let}(hl:rW F ls l)(hm:rW F ls m):dE ls l=dE ls m↔l.gate=m.gate/\l.aw=m.aw:=by
 obtain⟨l1,l2,l3,l4⟩:=hl;obtain⟨m1,m2,m3,m4⟩:=hm;unfold dE;constructor
 .intro h;have sl:=rT ls l.gate.toNat;have sm:=rT ls m.gate.toNat;rcases Mi l.gate.toNat m.gate.toNat with c|c|c
  .have:=yO (ls:=ls) (show l.gate.toNat+1<=m.gate.toNat by omega);omega
  .rw[c] at h;omega
  have:=yO (ls:=ls) (show m.gate.toNat+1<=l.gate.toNat by omega);omega
 rintro ⟨h1,h2⟩;rw[h1,h2]
theorem anX{ls:List Let}{l m:Let}(hl:rW F ls l)(hm:rW F ls m):ET l m=true↔dE ls l<dE ls m:=by
 obtain⟨l1,l2,l3,l4⟩:=hl;obtain⟨m1,m2,m3,m4⟩:=hm;unfold dE ET;simp only[oY,cE,lh,dk];have sl:=rT ls l.gate.toNat;have sm:=rT ls m.gate.toNat;rcases Mi l.gate.toNat m.gate.toNat with c|c|c
 .have:=yO (ls:=ls) (show l.gate.toNat+1<=m.gate.toNat by omega);omega
 .rw[c];omega
 have:=yO (ls:=ls) (show m.gate.toNat+1<=l.gate.toNat by omega);omega
theorem Va{ls:List Let}{l:Let}(hl:rW F ls l):dE ls l<fj ls (F+1):=by obtain⟨l1,l2,l3,l4⟩:=hl;unfold dE;have sl:=rT ls l.gate.toNat;have:=yO (ls:=ls) (show l.gate.toNat+1<=F+1 by omega);omega
theorem OJ{ls:List Let}{i:Nat}{l:Let}(h:ls[i]?=some l)(hp:l.aG=true):rB ls i=true↔1<=l.aw/\l.aw<=(cg ls l.gate.toNat:Int)/\ ∀j m,j<i->ls[j]?=some m->m.aG=true->dE ls m≠dE ls l:=by
 simp only[rB,h,hp,zV,DC,cE,lh,kW,Fz,fJ];constructor
 .rintro ⟨⟨h1,h2⟩,h3⟩
  refine⟨h1,h2,fun j m hj hm lH e=>?_⟩;have:=h3 j hj;rw[Kt hm lH] at this;simp[e] at this
 rintro ⟨h1,h2,h3⟩
 refine⟨⟨h1,h2⟩,fun j hj=>?_⟩;unfold qY;split
 .rename_i m hm;cases lH:m.aG with
  |false=>simp
  |true=>simpa using h3 j m hj hm lH
 simp
theorem Lw{ls:List Let}(hg:pJ F ls):wQ ls=true↔(∀l∈ls,l.aG=true->rW F ls l)/\ ∀(i j:Nat) (l m:Let),ls[i]?=some l->ls[j]?=some m->l.aG=true->m.aG=true->dE ls l=dE ls m->i=j:=by
 unfold wQ;rw[ij];constructor
 .intro h;refine⟨fun l hl hp=>?_,fun i j l m hi hj bG lH e=>?_⟩
  .obtain⟨i,hi⟩:=gH hl;have:=(OJ hi hp).1 (h i (fJ.2 (aY.1 hi).1));exact⟨(hg l hl hp).1,(hg l hl hp).2,this.1,this.2.1⟩
  have ci:=(OJ hi bG).1 (h i (fJ.2 (aY.1 hi).1));have cj:=(OJ hj lH).1 (h j (fJ.2 (aY.1 hj).1));rcases Mi i j with c|c|c
  .exact absurd e (cj.2.2 i l c hi bG)
  .exact c
  exact absurd e.symm (ci.2.2 j m c hj lH)
 rintro ⟨h1,h2⟩ i hi
 obtain⟨l,hl⟩:=aN (fJ.1 hi);cases hp:l.aG with
 |false=>simp[rB,hl,hp]
 |true=>have hg:=h1 l (aW hl) hp;refine(OJ hl hp).2 ⟨hg.r0,hg.r1,fun j m hj hm lH e=>?_⟩;have:=h2 j i m l hm hl lH hp e;omega
theorem NL(g:Int)(h:0<=g)(l:Let):mO g l=n0 g.toNat l:=by unfold mO n0;rw[afC h]
theorem sB{l:Let}(hp:l.aG=true):dr f l=false↔(((0<=l.gate/\l.gate<=f)/\l.id=0)/\l.sign=0)/\l.over=false:=by unfold Let.aG at hp;simp only[dr,hp,if_true,L7,decide_eq_false_iff_not,bne_eq_false_iff_eq,Int.not_lt]
theorem HP{ls:List Let}{l:Let}(hp:l.aG=true):uh f ls l=true↔dr f l=false/\1<=l.aw/\l.aw<=(ay (mO l.gate) ls:Int)/\ay (ib l) ls=1:=by
 rw[sB hp];unfold uh;simp only[kW,L7,decide_eq_false_iff_not,bne_eq_false_iff_eq];constructor
 .rintro ⟨⟨⟨⟨⟨⟨⟨a,b⟩,c⟩,d⟩,e⟩,g⟩,h⟩,i⟩
  exact⟨⟨⟨⟨⟨aa,aa⟩,a⟩,b⟩,c⟩,aa,aa,aa⟩
 rintro ⟨⟨⟨⟨⟨d,e⟩,a⟩,b⟩,c⟩,g,h,i⟩
 exact⟨⟨⟨⟨⟨⟨⟨a,b⟩,c⟩,aa⟩,aa⟩,aa⟩,aa⟩,aa⟩
theorem ON{l m:Let}(hp:l.aG=true):ib l m=true↔m.aG=true/\m.gate=l.gate/\m.aw=l.aw:=by unfold Let.aG at hp ⊢;simp only[dk] at hp;unfold ib;simp only[cE,dk,hp,and_assoc]
theorem anE{ls:List Let}:(∀l∈ls,l.aG=true->uh F ls l=true)↔(∀l∈ls,l.aG=true->dr F l=false)/\wQ ls=true:=by
 constructor
 .intro h;have hb:∀l∈ls,l.aG=true->dr F l=false:=fun l hl hp=>((HP hp).1 (h l hl hp)).1;have hg:pJ F ls:=fun l hl hp=>((sB hp).1 (hb l hl hp)).1.1.1;refine⟨hb,(Lw hg).2 ⟨fun l hl hp=>?_,fun i j l m hi hj bG lH e=>?_⟩⟩
  .obtain⟨_,h2,h3,_⟩:=(HP hp).1 (h l hl hp);have:=hg l hl hp;refine⟨this.1,this.2,h2,?_⟩;have e:ay (mO l.gate) ls=cg ls l.gate.toNat:=by unfold cg ay;congr 1;funext m;exact NL _ this.1 m
   omega
  have gl:rW F ls l:=by
   obtain⟨_,h2,h3,_⟩:=(HP bG).1 (h l (aW hi) bG);have:=hg l (aW hi) bG;have e:ay (mO l.gate) ls=cg ls l.gate.toNat:=by unfold cg ay;congr 1;funext m;exact NL _ this.1 m
   exact⟨this.1,this.2,h2,aa⟩
  have gm:rW F ls m:=by
   obtain⟨_,h2,h3,_⟩:=(HP lH).1 (h m (aW hj) lH);have:=hg m (aW hj) lH;have e:ay (mO m.gate) ls=cg ls m.gate.toNat:=by unfold cg ay;congr 1;funext m;exact NL _ this.1 m
   exact⟨this.1,this.2,h2,aa⟩
  have e2:=(Dl gl gm).1 e;have hs:=((HP lH).1 (h m (aW hj) lH)).2.2.2;exact(DS hj ((ON lH).2 ⟨lH,rfl,rfl⟩)).1 hs i l hi ((ON lH).2 ⟨bG,e2.1,e2.2⟩)
 rintro ⟨hb,hr⟩ l hl hp
 have hg:pJ F ls:=fun l hl hp=>((sB hp).1 (hb l hl hp)).1.1.1;obtain⟨h1,h2⟩:=(Lw hg).1 hr;have gl:=h1 l hl hp;have e:ay (mO l.gate) ls=cg ls l.gate.toNat:=by unfold cg ay;congr 1;funext m;exact NL _ gl.g0 m
 obtain⟨i,hi⟩:=gH hl;refine(HP hp).2 ⟨hb l hl hp,gl.r0,by rw[e];exact gl.r1,(DS hi ((ON hp).2 ⟨hp,rfl,rfl⟩)).2 fun j m hj hs=>?_⟩;obtain⟨lH,eg,er⟩:=(ON hp).1 hs;exact h2 j i m l hj hi lH hp ((Dl (h1 m (aW hj) lH) gl).2 ⟨eg,er⟩)
def qC(id:Int)(o:Bool)(l:Let):Bool:=l.aB&&(l.id==id&&l.over==o)
theorem GX{ls:List Let}{j:Nat}{m:Let}(h:ls[j]?=some m)(id:Int)(o:Bool):pM ls id o j=qC id o m:=by simp[pM,qC,h]
theorem oD{id:Int}{o:Bool}{l:Let}:qC id o l=true↔l.aB=true/\l.id=id/\l.over=o:=by unfold qC;simp only[cE,dk]
def Fb(ls:List Let):Prop:=∀(i j:Nat) (l m:Let),ls[i]?=some l->ls[j]?=some m->l.aB=true->m.aB=true->l.id=m.id->i≠j->l.over≠m.over/\l.sign=m.sign
def Ua(ls:List Let):Prop:=∀l∈ls,l.aB=true->1<=l.id/\l.id<=((ay Let.aB ls/2:Nat):Int)
theorem afv{ls:List Let}{n2 k:Nat}{l:Let}(h:ls[k]?=some l)(hc:l.aB=true):kV ls n2 k=true↔(1<=l.id/\l.id<=(n2:Int))/\fy ls k l.id l.over=none/\ ∀j,fy ls k l.id (!l.over)=some j->Bu ls j=l.sign:=by
 simp only[kV,h,hc,zV,DC,cE,lh,Option.isNone_iff_eq_none];constructor
 .rintro ⟨h1,h2,h3⟩
  refine⟨h1,h2,fun j hj=>?_⟩;rw[hj] at h3
  simpa using h3
 rintro ⟨h1,h2,h3⟩
 refine⟨h1,h2,?_⟩;split
 .rename_i j hj
  simpa using h3 j hj
 rfl
theorem Fu{ls:List Let}:(∀k,k<ls.length->kV ls (ay Let.aB ls/2) k=true)↔Ua ls/\Fb ls:=by
 constructor
 .intro h;have hx:∀ {k:Nat} {l:Let},ls[k]?=some l->l.aB=true->_:=fun {k l} hk hc=>(afv (n2:=ay Let.aB ls/2) hk hc).1 (h k (aY.1 hk).1);refine⟨fun l hl hc=>?_,?_⟩
  .obtain⟨i,hi⟩:=gH hl;exact(hx hi hc).1
  have key:∀(i j:Nat) (l m:Let),ls[i]?=some l->ls[j]?=some m->l.aB=true->m.aB=true->l.id=m.id->i<j->l.over≠m.over/\l.sign=m.sign:=by
   intro i j l m hi hj dM vX he eT;obtain⟨_,hn,hs⟩:=hx hj vX;have ho:l.over≠m.over:=by intro e;have:=LY hn eT;rw[GX hi,oD.2 ⟨dM,he,e⟩] at this;cases this
   refine⟨ho,?_⟩;have jS:l.over= !m.over:=by revert ho;cases l.over<;>cases m.over<;>simp
   cases hv:fy ls j m.id (!m.over) with
   |none=>have:=LY hv eT;rw[GX hi,oD.2 ⟨dM,he,jS⟩] at this;cases this
   |some p=>
    have h3:=hs p hv;obtain⟨rh,mh⟩:=Fp hv;obtain⟨x,iJ,KY,KZ,hxo⟩:=yX mh;have:p=i:=by
     rcases Mi p i with c|c|c
     .have tY:=(hx hi dM).2.1;have:=LY tY c;rw[GX iJ,oD.2 ⟨KY,by rw[KZ,he],by rw[hxo,jS]⟩] at this;cases this
     .exact c
     have h4:(List.range j).find? (pM ls m.id (!m.over))=some p:=hv;rw[List.find?_range_eq_some] at h4;have:=h4.2.2 i c;rw[GX hi,oD.2 ⟨dM,he,jS⟩] at this;cases this
    subst this;rw[hi] at iJ;cases iJ
    simpa [Bu,hi] using h3
  intro i j l m hi hj dM vX he eT;rcases afW eT with c|c
  .exact key i j l m hi hj dM vX he c
  have:=key j i m l hj hi vX dM he.symm c;exact⟨fun e=>this.1 e.symm,this.2.symm⟩
 rintro ⟨h1,h2⟩ k hk
 obtain⟨l,hl⟩:=aN hk;cases hc:l.aB with
 |false=>simp[kV,hl,hc]
 |true=>
  refine(afv hl hc).2 ⟨h1 l (aW hl) hc,?_,fun j hj=>?_⟩
  .cases hv:fy ls k l.id l.over with
   |none=>rfl
   |some p=>obtain⟨rh,mh⟩:=Fp hv;obtain⟨x,iJ,KY,KZ,hxo⟩:=yX mh;exact absurd hxo (h2 p k x l iJ hl KY hc KZ aa).1
  obtain⟨rh,mh⟩:=Fp hj;obtain⟨x,iJ,KY,KZ,hxo⟩:=yX mh;have:=(h2 j k x l iJ hl KY hc KZ aa).2;simp[Bu,iJ,this]
theorem aqY(ls:List Let):∀ids:List Int,ids.Nodup->(ids.map fun id=>ay (ke id) ls).sum=ay (fun l=>l.aB&&ids.contains l.id) ls:=by
 intro ids
 induction ids with
 |nil=>intro _;simp[ay]
 |cons a ids ih=>
  intro hn;rw[qj] at hn;rw[eE,PB,ih hn.2];refine(Qz (p:=ke a) (q:=fun l=>l.aB&&ids.contains l.id) (r:=fun l=>l.aB&&(a::ids).contains l.id) ?_ ?_ ls).symm
  .intro l;simp only[ke,cE,dk,L8,lh,dh];constructor
   .rintro ⟨h1,h2|h2⟩
    .exact .inl ⟨h1,h2⟩
    exact .inr ⟨h1,h2⟩
   rintro (⟨h1,h2⟩|⟨h1,h2⟩)
   .exact⟨h1,.inl h2⟩
   exact⟨h1,.inr h2⟩
  intro l;simp only[ke,cE,dk,L8,lh];rintro ⟨_,h1⟩ ⟨_,h2⟩
  exact hn.1 (h1▸h2)
theorem NJ{ls:List Let}{l:Let}(hl:l∈ls)(hc:l.aB=true):l.id∈eB ls ls.length:=by obtain⟨i,hi⟩:=gH hl;refine(EM (cA _)).2 ⟨i,l.over,(aY.1 hi).1,?_⟩;rw[GX hi];exact oD.2 ⟨hc,rfl,rfl⟩
theorem VI(ls:List Let):((eB ls ls.length).map fun id=>ay (ke id) ls).sum=ay Let.aB ls:=by
 rw[aqY _ _ (NK ls _)];apply Pq;intro l hl;cases hc:l.aB with
 |false=>simp
 |true=>simp[NJ hl hc]
theorem NR(id:Int)(ls:List Let):ay (ke id) ls=ay (qC id true) ls+ay (qC id false) ls:=by
 refine Qz ?_ ?_ ls
 .intro l;rw[oD,oD];simp only[ke,cE,dk];cases l.over<;>simp
 intro l;rw[oD,oD];rintro ⟨_,_,h1⟩ ⟨_,_,h2⟩
 rw[h1] at h2;cases h2
theorem Uc(id:Int)(o:Bool)(ls:List Let):ay (ke id) ls=ay (qC id o) ls+ay (qC id (!o)) ls:=by
 rw[NR];cases o with
 |true=>rfl
 |false=>simp only[L5];omega
theorem yW{ls:List Let}(h:Fb ls)(id:Int)(o:Bool):ay (qC id o) ls<=1:=by refine ahZ fun i j l m hi hj hl hm=>?_;obtain⟨l1,l2,l3⟩:=oD.1 hl;obtain⟨m1,m2,m3⟩:=oD.1 hm;refine Decidable.byContradiction fun aM=>?_;exact(h i j l m hi hj l1 m1 (by rw[l2,m2]) aM).1 (by rw[l3,m3])
theorem aeY{f:Int->Nat}:∀ids:List Int,(∀x∈ids,f x<=2)->(ids.map f).sum<=2*ids.length:=by
 intro ids
 induction ids with
 |nil=>intro _;simp
 |cons a ids ih=>intro h;have:=ih fun x hx=>h x (vB _ hx);have:=h a IS;simp only[eE,PB,dp];omega
theorem W5{f:Int->Nat}:∀ids:List Int,(∀x∈ids,f x<=2)->(ids.map f).sum=2*ids.length->∀x∈ids,f x=2:=by
 intro ids
 induction ids with
 |nil=>intro _ _ x hx;cases hx
 |cons a ids ih=>
  intro h hs;have h1:=aeY ids fun x hx=>h x (vB _ hx);have h2:=h a IS;simp only[eE,PB,dp] at hs;intro x hx;rcases dh.1 hx with rfl|hx
  .omega
  exact ih (fun x hx=>h x (vB _ hx)) aa x hx
theorem aqZ{f:Int->Nat}:∀ids:List Int,(∀x∈ids,f x=2)->(ids.map f).sum=2*ids.length:=by
 intro ids
 induction ids with
 |nil=>intro _;simp
 |cons a ids ih=>intro h;have:=ih fun x hx=>h x (vB _ hx);have:=h a IS;simp only[eE,PB,dp];omega
theorem UX{l m:Let}(hc:l.aB=true):gC l m=true↔m.aB=true/\m.id=l.id/\m.sign=l.sign/\m.over= !l.over:=by unfold Let.aB at hc ⊢;simp only[dk] at hc;unfold gC;simp only[cE,dk,hc,and_assoc,kW,rI,ne_eq];cases l.over<;>cases m.over<;>simp
theorem Od{l:Let}(hc:l.aB=true):dr f l=false↔(l.gate=0/\l.aw=0)/\(l.sign !=1&&l.sign != -1)=false:=by
 unfold Let.aB at hc;have h1:(l.kind==1)=false:=by simp only[dk] at hc;rw[hc];rfl
 simp only[dr,hc,h1,if_true];simp
theorem adn{ls:List Let}{l:Let}(hc:l.aB=true):kz ls l=true↔dr f l=false/\(1<=l.id/\l.id<=((ay Let.aB ls/2:Nat):Int))/\ay (gC l) ls=1/\ay (ke l.id) ls=2:=by
 rw[Od hc];unfold kz;simp only[kW,L7,decide_eq_false_iff_not,bne_eq_false_iff_eq];constructor
 .rintro ⟨⟨⟨⟨⟨⟨a,b⟩,c⟩,d⟩,e⟩,g⟩,h⟩
  exact⟨⟨⟨a,b⟩,c⟩,⟨aa,aa⟩,aa,aa⟩
 rintro ⟨⟨⟨a,b⟩,c⟩,⟨d,e⟩,g,h⟩
 exact⟨⟨⟨⟨⟨⟨a,b⟩,c⟩,aa⟩,aa⟩,aa⟩,aa⟩
theorem aii{ls:List Let}:(∀l∈ls,l.aB=true->kz ls l=true)↔(∀l∈ls,l.aB=true->dr f l=false)/\kr ls=true:=by
 have KU:=VI ls;constructor
 .intro h;have dx:=fun l hl hc=>(adn (f:=f) hc).1 (h l hl hc);have hp:Fb ls:=by
   intro i j l m hi hj dM vX he eT;obtain⟨_,_,h3,h4⟩:=dx l (aW hi) dM;have e1:=Uc l.id l.over ls;have g1:0<ay (qC l.id l.over) ls:=vw.2 ⟨l,aW hi,oD.2 ⟨dM,rfl,rfl⟩⟩;obtain⟨x,hx,qG⟩:=vw.1 (show 0<ls.countP (gC l) by show 0<ay (gC l) ls;omega);obtain⟨x1,x2,x3,x4⟩:=(UX dM).1 qG;have g2:0<ay (qC l.id (!l.over)) ls:=vw.2 ⟨x,hx,oD.2 ⟨x1,x2,x4⟩⟩;have u1:ay (qC l.id l.over) ls=1:=aa;have u2:ay (qC l.id (!l.over)) ls=1:=aa;have ho:l.over≠m.over:=by intro e;have:=(DS hi (oD.2 ⟨dM,rfl,rfl⟩)).1 u1 j m hj (oD.2 ⟨vX,he.symm,e.symm⟩);exact eT this.symm
   refine⟨ho,?_⟩;have jS:m.over= !l.over:=by revert ho;cases l.over<;>cases m.over<;>simp
   obtain⟨p,iJ⟩:=gH hx;have:=(DS hj (oD.2 ⟨vX,he.symm,jS⟩)).1 u2 p x iJ (oD.2 ⟨x1,x2,x4⟩);subst this;rw[iJ] at hj;cases hj;exact x3.symm
  have alm:∀id∈eB ls ls.length,ay (ke id) ls=2:=by intro id hid;obtain⟨j,o,h1,h2⟩:=(EM (cA _)).1 hid;obtain⟨m,hm,hc,hi,_⟩:=yX h2;rw[<- hi];exact(dx m (aW hm) hc).2.2.2
  rw[aqZ _ alm] at KU;refine⟨fun l hl hc=>(dx l hl hc).1,?_⟩;have hx:=(Fu (ls:=ls)).2 ⟨fun l hl hc=>(dx l hl hc).2.1,hp⟩;rw[QF aa hx];simp only[dk];omega
 rintro ⟨hb,hr⟩ l hl hc
 unfold kr at hr;simp only[cE,dk,ij,fJ] at hr;obtain⟨⟨he,hx⟩,hlen⟩:=hr;obtain⟨hid,hp⟩:=Fu.1 hx;have hle:∀id∈eB ls ls.length,ay (ke id) ls<=2:=fun id _=>by rw[NR id];have:=yW hp id true;have:=yW hp id false;omega
 have h2:=W5 _ hle (by rw[KU,hlen];omega) l.id (NJ hl hc);have e1:=Uc l.id l.over ls;have b1:=yW hp l.id l.over;have b2:=yW hp l.id (!l.over);refine(adn hc).2 ⟨hb l hl hc,hid l hl hc,?_,h2⟩;have u2:ay (qC l.id (!l.over)) ls=1:=aa;obtain⟨i,hi⟩:=gH hl;obtain⟨x,hx,qG⟩:=vw.1 (show 0<ls.countP (qC l.id (!l.over)) by show 0<ay (qC l.id (!l.over)) ls;omega);obtain⟨p,iJ⟩:=gH hx;obtain⟨x1,x2,x3⟩:=oD.1 qG;have fQ:p≠i:=by
  rintro rfl
  rw[hi] at iJ;cases iJ;revert x3;cases l.over<;>simp
 have hsg:=(hp p i x l iJ hi x1 hc x2 fQ).2;refine(DS iJ ((UX hc).2 ⟨x1,x2,hsg,x3⟩)).2 fun j m hj hm=>?_;obtain⟨m1,m2,m3,m4⟩:=(UX hc).1 hm;exact(DS iJ qG).1 u2 j m hj (oD.2 ⟨m1,m2,m4⟩)
theorem Am{l:Let}(h:dr f l=false):l.aG=true\/l.aB=true:=by
 unfold Let.aG Let.aB;cases h1:(l.kind==1) with
 |true=>exact .inl rfl
 |false=>
  cases h2:(l.kind==2) with
  |true=>exact .inr rfl
  |false=>simp only[dr,h1,h2] at h;cases h
theorem oN{l:Let}(hp:l.aG=true):l.aB=false:=by unfold Let.aG at hp;unfold Let.aB;simp only[dk] at hp;rw[hp];rfl
theorem adp{ls:List Let}{l:Let}(hp:l.aG=true):dX f ls l=uh f ls l:=by unfold Let.aG at hp;simp only[dX,hp,if_true]
theorem ado{ls:List Let}{l:Let}(hp:l.aB=true):dX f ls l=kz ls l:=by
 unfold Let.aB at hp;have h1:(l.kind==1)=false:=by simp only[dk] at hp;rw[hp];rfl
 simp only[dX,hp,h1,if_true];simp
theorem Ux{ls:List Let}:vk F ls=true↔ls.any (dr F)=false/\wQ ls=true/\kr ls=true:=by
 unfold vk;rw[ij,Fz];have e1:=anE (F:=F) (ls:=ls);have e2:=aii (f:=(F:Int)) (ls:=ls);constructor
 .intro h;have hk:=fun {l:Let} (hl:l∈ls)=>acy (f:=F) (ls:=ls) (ij.2 h) (gH hl).choose_spec;obtain⟨p1,p2⟩:=e1.1 fun l hl hp=>by rw[<- adp hp];exact h l hl
  obtain⟨c1,c2⟩:=e2.1 fun l hl hc=>by rw[<- ado (f:=F) hc];exact h l hl
  refine⟨fun l hl=>?_,p2,c2⟩;rcases hk hl with hp|hc
  .rw[p1 l hl hp];simp
  rw[c1 l hl hc];simp
 rintro ⟨hb,hr,hc⟩ l hl
 have hb:∀l∈ls,dr F l=false:=fun l hl=>by simpa using hb l hl
 rcases Am (hb l hl) with hp|jN
 .rw[adp hp];exact e1.2 ⟨fun l hl _=>hb l hl,hr⟩ l hl hp
 rw[ado jN];exact e2.2 ⟨fun l hl _=>hb l hl,hc⟩ l hl jN
theorem aqC{o:List Nat}(hs:o.Pairwise (· < ·))(au:∀x∈o,x<o.length):∀(k:Nat) (h:k<o.length),o[k]=k:=by
 rw[IU] at hs;have lo:∀(k:Nat) (h:k<o.length),k<=o[k]:=by
  intro k
  induction k with
  |zero=>intro _;omega
  |succ k ih=>intro h;have:=ih aa;have:=hs k (k+1) aa h aa;omega
 have hi:∀(d k:Nat) (h:k<o.length),k+d+1=o.length->o[k]<=k:=by
  intro d
  induction d with
  |zero=>intro k h e;have:=au _ (Wk h);omega
  |succ d ih=>intro k h e;have:=ih (k+1) aa aa;have:=hs k (k+1) h aa aa;omega
 intro k h;have:=lo k h;have:=hi (o.length-k-1) k h aa;omega
theorem alQ{key:Nat->Nat}{p:Nat->Bool}{i:Nat}:∀ {o:List Nat},o.Pairwise (fun a b=>key a<key b)->(∀x∈o,p x=decide (key x<key i))->(∀x∈o,key x≠key i)->
  (o.take (o.takeWhile p).length++i::o.drop (o.takeWhile p).length).Pairwise (fun a b=>key a<key b):=by
 intro o
 induction o with
 |nil=>intro _ _ _;simp
 |cons a o ih=>
  intro hs hp hn;rw[rG] at hs;have pa:=hp a IS;have na:=hn a IS;by_cases au:key a<key i
  .have pa':p a=true:=by rw[pa];simpa using au
   rw[List.takeWhile_cons,aE pa'];simp only[dp,Wu,List.drop_succ_cons,DD];rw[rG];refine⟨fun b hb=>?_,ih hs.2 (fun x hx=>hp x (vB _ hx)) (fun x hx=>hn x (vB _ hx))⟩;rcases fi.1 hb with hb|hb
   .exact hs.1 b (vC hb)
   rcases dh.1 hb with rfl|hb
   .exact au
   exact hs.1 b (uB hb)
  have pa':¬p a=true:=by rw[pa];simpa using au
  rw[List.takeWhile_cons,aD pa'];simp only[eP,Wv,L9,gi];rw[rG,rG];refine⟨fun b hb=>?_,hs⟩;rcases dh.1 hb with rfl|hb
  .omega
  have:=hs.1 b hb;omega
theorem Fg{ls:List Let}{i:Nat}{l:Let}(h:ls[i]?=some l)(hp:l.aG=true):zD ls i=dE ls l:=by simp[zD,h,hp]
structure Ai (F:Nat) (ls:List Let):Prop where
 eJ:∀l∈ls,l.aG=true->rW F ls l
 inj:∀(i j:Nat) (l m:Let),ls[i]?=some l->ls[j]?=some m->l.aG=true->m.aG=true->dE ls l=dE ls m->i=j
theorem Xh{ls:List Let}(h:Ai F ls):∀k,k<=ls.length->(mD ls k).Pairwise (fun a b=>zD ls a<zD ls b):=by
 intro k
 induction k with
 |zero=>intro _;simp[mD]
 |succ k ih=>
  intro hk;have ih:=ih aa;rw[F3];obtain⟨l,hl⟩:=aN (show k<ls.length by omega);unfold yL;rw[hl];simp only;cases hp:l.aG with
  |false=>simpa using ih
  |true=>
   simp only[if_true];unfold yl;have hm:=fun {x:Nat} (hx:x∈mD ls k)=>(Xg (ls:=ls) (k:=k) aa).1 hx;refine alQ ih (fun x hx=>?_) (fun x hx e=>?_)
   .obtain⟨h1,m,hm,yc⟩:=hm hx;rw[Fg hm yc,Fg hl hp];unfold zq;rw[hm,hl];simp only;have:=anX (h.eJ m (aW hm) yc) (h.eJ l (aW hl) hp);cases hb:ET m l with
    |true=>simpa using this.1 hb
    |false=>symm;rw[decide_eq_false_iff_not];intro hc;rw[this.2 hc] at hb;cases hb
   obtain⟨h1,m,hm,yc⟩:=hm hx;rw[Fg hm yc,Fg hl hp] at e;have:=h.inj x k m l hm hl yc hp e;omega
theorem ag5{ls:List Let}:∀k,k<=ls.length->(mD ls k).length=ay Let.aG (ls.take k):=by
 intro k
 induction k with
 |zero=>intro _;simp[mD,ay]
 |succ k ih=>
  intro hk;have ih:=ih aa;rw[F3];obtain⟨l,hl⟩:=aN (show k<ls.length by omega);unfold yL;rw[hl];simp only;cases hp:l.aG with
  |false=>rw[iR hl hp];simpa using ih
  |true=>simp only[if_true];rw[alL,qS hl hp,ih]
theorem I9{ls:List Let}:(aC ls).length=ay Let.aG ls:=by have:=ag5 (ls:=ls) ls.length (cA _);rwa[jf] at this
theorem DJ{ls:List Let}(h:pJ F ls):fj ls (F+1)=(aC ls).length:=by
 rw[I9,ZP];apply Pq;intro l hl;cases hp:l.aG with
 |false=>simp
 |true=>have:=h l hl hp;simp only[IJ,cE,lh,iff_true];omega
theorem Ai.pJ{ls:List Let}(h:Ai F ls):pJ F ls:=fun l hl hp=>⟨(h.eJ l hl hp).g0,(h.eJ l hl hp).g1⟩
theorem Aj{ls:List Let}(h:Ai F ls){k i:Nat}(hk:(aC ls)[k]?=some i):∃l,ls[i]?=some l/\l.aG=true/\dE ls l=k:=by
 have hs:((aC ls).map (zD ls)).Pairwise (· < ·):=by rw[BN];exact Xh h ls.length (cA _)
 have hT:=DJ h.pJ;have au:∀x∈(aC ls).map (zD ls),x<((aC ls).map (zD ls)).length:=by intro x hx;obtain⟨j,hj,rfl⟩:=dy.1 hx;obtain⟨l,hl,hp⟩:=qR.1 hj;rw[Fg hl hp,cG,<- hT];exact Va (h.eJ l (aW hl) hp)
 obtain⟨cH,nz⟩:=aY.1 hk;have:=aqC hs au k (by rw[cG];exact cH);rw[BI,nz] at this;obtain⟨l,hl,hp⟩:=qR.1 (aW hk);exact⟨l,hl,hp,by rw[<- Fg hl hp];exact this⟩
theorem Qg{ls:List Let}(h:Ai F ls){i:Nat}{l:Let}(hl:ls[i]?=some l)(hp:l.aG=true):(aC ls)[dE ls l]?=some i:=by have au:=Va (h.eJ l (aW hl) hp);rw[DJ h.pJ] at au;obtain⟨j,hj⟩:=aN au;obtain⟨m,hm,yc,he⟩:=Aj h hj;rw[hj,h.inj j i m l hm hl yc hp he]
theorem Ja{ls:List Let}(h:Ai F ls){i:Nat}{l:Let}(hl:ls[i]?=some l)(hp:l.aG=true):(aC ls).idxOf i=dE ls l:=by have h1:=Qg h hl hp;have h2:=abe (aW h1);obtain⟨m,hm,yc,he⟩:=Aj h h2;rw[hl] at hm;cases hm;exact he.symm
theorem aha{ls:List Let}(h:Ai F ls):qP ls (fj ls (F+1)) ls.length=aC ls:=by
 apply vx
 .rw[Xf,DJ h.pJ]
 intro k h1 h2;simp only[qP,BI,IP];obtain⟨l,hl,hp,he⟩:=Aj h (nU h2);generalize (aC ls)[k]=i at hl;unfold I6;have j7:=(aY.1 hl).1;have hf:(List.range ls.length).find? (qY ls k)=some i:=by
  refine AO j7 (fun j hj=>?_) ?_
  .cases hh:qY ls k j with
   |false=>rfl
   |true=>
    unfold qY at hh;split at hh
    .rename_i m hm;simp only[cE,dk] at hh;have:=h.inj j i m l hm hl hh.1 hp (by rw[hh.2,he]);omega
    cases hh
  rw[Kt hl hp];simp[he]
 rw[hf];rfl
theorem Oi{ls:List Let}(hr:kr ls=true){i:Nat}{l:Let}(hl:ls[i]?=some l)(hc:l.aB=true):fy ls ls.length l.id (!l.over)=some (fh ls i)/\fh ls i<ls.length:=by
 have KU:=VI ls;unfold kr at hr;simp only[cE,dk,ij,fJ] at hr;obtain⟨⟨he,hx⟩,hlen⟩:=hr;obtain⟨hid,hp⟩:=Fu.1 hx;have hle:∀id∈eB ls ls.length,ay (ke id) ls<=2:=fun id _=>by rw[NR id];have:=yW hp id true;have:=yW hp id false;omega
 have h2:=W5 _ hle (by rw[KU,hlen];omega) l.id (NJ (aW hl) hc);have e1:=Uc l.id l.over ls;have b1:=yW hp l.id l.over;have b2:=yW hp l.id (!l.over);obtain⟨x,hx,qG⟩:=vw.1 (show 0<ls.countP (qC l.id (!l.over)) by show 0<ay (qC l.id (!l.over)) ls;omega);obtain⟨p,iJ⟩:=gH hx;obtain⟨x1,x2,x3⟩:=oD.1 qG;have hpn:=(aY.1 iJ).1;have fQ:p≠i:=by
  rintro rfl
  rw[hl] at iJ;cases iJ;revert x3;cases l.over<;>simp
 have uniq:∀(j:Nat) (m:Let),ls[j]?=some m->m.aB=true->m.id=l.id->j≠i->j=p:=by intro j m hj mc mi yZ;refine Decidable.byContradiction fun aM=>?_;have o1:=(hp j i m l hj hl mc hc mi yZ).1;have o2:=(hp j p m x hj iJ mc x1 (by rw[mi,x2]) aM).1;rw[x3] at o2;revert o1 o2;cases m.over<;>cases l.over<;>simp
 have xT:(List.range ls.length).find? (yq ls i)=some p:=by
  refine AO hpn (fun j hj=>?_) ?_
  .cases hh:yq ls i j with
   |false=>rfl
   |true=>
    unfold yq at hh;simp only[cE,bne_iff_ne,ne_eq] at hh;obtain⟨h1,h2⟩:=hh;split at h2
    .rename_i m hm;simp only[cE,dk,hl,mw,kE] at h2;have:=uniq j m hm h2.1 h2.2 h1;omega
    cases h2
  unfold yq;rw[iJ];simp[fQ,x1,hl,x2]
 have ho:fh ls i=p:=by unfold fh;rw[xT];rfl
 rw[ho];refine⟨?_,hpn⟩;unfold fy;refine AO hpn (fun j hj=>?_) ?_
 .cases hh:pM ls l.id (!l.over) j with
  |false=>rfl
  |true=>
   obtain⟨m,hm,mc,mi,mo⟩:=yX hh;have yZ:j≠i:=by
    rintro rfl
    rw[hl] at hm;cases hm;revert mo;cases l.over<;>simp
   have:=uniq j m hm mc mi yZ;omega
 rw[GX iJ];exact qG
end
end Go.Abs
