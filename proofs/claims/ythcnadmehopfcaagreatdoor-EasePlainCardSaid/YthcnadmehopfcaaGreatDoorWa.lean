/- A part. -/
import Derived.Test.YthcnadmehopfcaaGreatDoorSa
set_option linter.all false
set_option maxRecDepth 100000
set_option maxHeartbeats 16000000
namespace Go.Abs
section
variable{f:Int}{F:Nat}
structure Let where
 kind:Int
 gate:Int
 aE:Int
 id:Int
 sign:Int
 over:Bool
 deriving DecidableEq
def Let.ps(l:Let):List PV:=[.int .i64 l.kind,.int .i64 l.gate,.int .i64 l.aE,.int .i64 l.id,.int .i64 l.sign,.bool l.over]
def Let.aG(l:Let):Bool:=l.kind==1
def Let.aC(l:Let):Bool:=l.kind==2
abbrev cK(ls:List Let):PV:=.sl (ls.map Let.ps)
abbrev dR(f:Int)(ls:List Let):V:=.agg [.p (.int .i64 f),.p (cK ls)]
abbrev tz(f:Int)(ls:List Let):List C:=[.p (.int .i64 f),.p (cK ls)]
abbrev vi(k:Int):V:=.one (.p (.int .i64 k))
abbrev vb(b:Bool):V:=.one (.p (.bool b))
abbrev ri(k:Int):RV:=.one (.p (.int .i64 k))
abbrev rb(k:Bool):RV:=.one (.p (.bool k))
abbrev aw(p:Let->Bool)(ls:List Let):Nat:=ls.countP p
theorem aM{α:Type}{ls:List α}{k:Nat}(h:k<ls.length):∃l,ls[k]?=some l:=⟨ls[k],by simp[h]⟩
theorem sk{p:Let->Bool}{ls:List Let}{k:Nat}{l:Let}(h:ls[k]?=some l)(hp:p l=true):aw p (ls.take (k+1))=aw p (ls.take k)+1:=by unfold aw;obtain⟨hk,rfl⟩:=aW.1 h;rw[ais hk,v7,Yp,aF hp]
theorem jA{p:Let->Bool}{ls:List Let}{k:Nat}{l:Let}(h:ls[k]?=some l)(hp:p l=false):aw p (ls.take (k+1))=aw p (ls.take k):=by unfold aw;obtain⟨hk,rfl⟩:=aW.1 h;rw[ais hk,v7,Yp,hp];rfl
theorem y7(p:Let->Bool)(ls:List Let)(k:Nat):aw p (ls.take k)<=k:=mT KZ (by rw[fX];exact Nat.min_le_left _ _)
theorem tx(p:Let->Bool)(ls:List Let):aw p ls<=ls.length:=KZ
theorem ia{ls:List Let}{k:Nat}{l:Let}(h:ls[k]?=some l):(ls.map Let.ps)[k]?=some l.ps:=by simp[h]
theorem wrap_add{a b:Nat}(h:a+b<=9223372036854775807):IntKind.i64.wrap ((a:Int)+(b:Int))=((a+b:Nat):Int):=wrap_small (n:=a+b) h
theorem ue{a:Nat}(h:2*a<=9223372036854775807):IntKind.i64.wrap (2*(a:Int))=((2*a:Nat):Int):=wrap_small (n:=2*a) h
theorem Yj{a b:Nat}(h:b<=a)(h2:a<=9223372036854775807):IntKind.i64.wrap ((a:Int)-(b:Int))=((a-b:Nat):Int):=by have:((a:Int)-(b:Int))=((a-b:Nat):Int):=aa;rw[this];exact wrap_small aa
theorem Hv{a:Nat}(h:1<=a)(h2:a<=9223372036854775807):IntKind.i64.wrap ((a:Int)-1)=((a-1:Nat):Int):=Yj (b:=1) h h2
def XV(x y:Option (List PV×List Nat))(f:Nat):Option (PV×List Nat):=match x,y with
 |some (x,r),some (y,s)=>some (.fn f x y,r++s)
 |_,_=>none
theorem at0{x y:List PV}{r s:List Nat}{f:Nat}:XV (some (x,r)) (some (y,s)) f=some (.fn f x y,r++s):=rfl
theorem at4{aj:aA}{f:Nat}{a b:List C}:snap aj fM (.hfn f a b)=XV (collect (snap aj 5) a) (collect (snap aj 5) b) f:=by unfold fM;rw[snap];unfold XV;rfl
theorem at5{aj:aA}{n id g off:Nat}:snap aj (n+1) (.aY id g off)=Ru (aj id) (collect (snap aj n)) id g off:=by rw[snap];rfl
theorem at6{aj:aA}{n id g z off len:Nat}:snap aj (n+1) (.hsl id g z off len)=Rv (aj id) (collect (collect (snap aj n))) id g off len:=by rw[snap];rfl
theorem aH{b:Bool}(h:b=true:=by kernel_rfl):b=true:=h
theorem bh{f:Nat}{fn:aV}{args:List V}{r:RV}(hf:S.fns f=some fn)(h:W S .all fn.body (mH .all fn.results fun v aj=>iE aj v=some r) (rM args) Aa)(hp:S.prim f args=none:=by rfl)(hl:args.length<=fn.ntmps:=by exact ig rfl):aK S f args r:=aiD hp hf hl h
theorem eo:¬((2:Int)=0):=ae
theorem uU(a b:Nat):(a:Int).tmod b=((a%b:Nat):Int):=by rw[avH aa];rfl
theorem jq(a:Nat):(a:Int).tmod 2=((a%2:Nat):Int):=uU a 2
theorem fv(a:Nat):(a:Int).tdiv 2=((a/2:Nat):Int):=by rw[aid aa];rfl
theorem dT{n:Nat}:¬((n:Int)<(n:Int)):=aa
theorem ps_len(l:Let):l.ps.length=6:=rfl
theorem amM{aj:aA}{all:List Nat}:uy aj all []=some []:=rfl
attribute [go_sem] at4 at0 at5 at6 amM
def nY(g:Int)(l:Let):Bool:=l.aG&&l.gate==g
def lf(g:Int)(l:Let):Bool:=l.aC&&l.id==g
theorem Xp(f:Int)(ls:List Let)(hl:ls.length<=1000000):aK S 92 [dR f ls] (ri (aw Let.aG ls)):=by
 refine bh c92 ?_;simp only[go_sem,i92];refine cU (fun k ak _=>ak 7=.one (.p (cK ls))/\ak 8=vi ls.length/\ak 9=vi k/\ak 3=vi (aw Let.aG (ls.take k))) 0 ls.length (bl _) ?_ ?_
 .simp only[go_sem];exact⟨rfl,rfl⟩
 rintro k ak aj hk ⟨h7,h8,h9,h3⟩
 by_cases au:k<ls.length
 .obtain⟨l,cP⟩:=aM au;have hi:=ia cP;have aL:((k:Int)<(ls.length:Int)):=aa;have hb:=y7 (Let.aG) ls k;have w1:=cA (n:=k) aa;have w2:=cA (n:=aw (Let.aG) (ls.take k)) aa;cases hp:(l.kind==1) with
  |true=>have hc:=sk (p:=Let.aG) cP hp;simp only[go_sem,i92_l1,h3,h7,h8,h9,hi,Let.ps,aL,w1,w2,hp,hc];first|exact au|exact⟨au,rfl⟩
  |false=>have hc:=jA (p:=Let.aG) cP hp;simp only[go_sem,i92_l1,h3,h7,h8,h9,hi,Let.ps,aL,w1,hp,hc];first|exact au|exact⟨au,rfl⟩
 have:k=ls.length:=aa;subst this;rw[jQ] at h3;simp only[go_sem,i92_l1,i92_r2,h3,h8,h9,dT]
theorem Tn(f:Int)(ls:List Let)(hl:ls.length<=1000000):aK S 48 [dR f ls] (ri (aw Let.aC ls)):=by
 refine bh c48 ?_;simp only[go_sem,i48];refine cU (fun k ak _=>ak 7=.one (.p (cK ls))/\ak 8=vi ls.length/\ak 9=vi k/\ak 3=vi (aw Let.aC (ls.take k))) 0 ls.length (bl _) ?_ ?_
 .simp only[go_sem];exact⟨rfl,rfl⟩
 rintro k ak aj hk ⟨h7,h8,h9,h3⟩
 by_cases au:k<ls.length
 .obtain⟨l,cP⟩:=aM au;have hi:=ia cP;have aL:((k:Int)<(ls.length:Int)):=aa;have hb:=y7 (Let.aC) ls k;have w1:=cA (n:=k) aa;have w2:=cA (n:=aw (Let.aC) (ls.take k)) aa;cases hp:(l.kind==2) with
  |true=>have hc:=sk (p:=Let.aC) cP hp;simp only[go_sem,i48_l1,h3,h7,h8,h9,hi,Let.ps,aL,w1,w2,hp,hc];first|exact au|exact⟨au,rfl⟩
  |false=>have hc:=jA (p:=Let.aC) cP hp;simp only[go_sem,i48_l1,h3,h7,h8,h9,hi,Let.ps,aL,w1,hp,hc];first|exact au|exact⟨au,rfl⟩
 have:k=ls.length:=aa;subst this;rw[jQ] at h3;simp only[go_sem,i48_l1,i48_r2,h3,h8,h9,dT]
theorem aas(f:Int)(ls:List Let)(hl:ls.length<=1000000):aK S 93 [dR f ls] (ri ((aw Let.aC ls/2:Nat))):=by
 have hb:=tx Let.aC ls;have e1:IntKind.i64.wrap ((aw Let.aC ls:Int).tdiv 2)=((aw Let.aC ls/2:Nat):Int):=by
  have:(aw Let.aC ls:Int).tdiv 2=((aw Let.aC ls/2:Nat):Int):=by rw[aid aa];omega
  rw[this];exact wrap_small aa
 refine bh c93 ?_;simp only[go_sem,i93,s48,dY (Tn f ls hl),e1,(by decide:¬(2:Int)=0)]
theorem aq5(f:Int)(ls:List Let)(hl:ls.length<=1000000):aK S 32 [dR f ls] (ri (aw Let.aG ls)):=by
 refine bh c32 ?_;simp only[go_sem,i32];refine cU (fun k ak aj=>ak 1=.one (.aY 2048000000 1 0)/\aj 2048000000=(1,some (.var (tz f ls)))/\ak 4=vi k/\ak 3=vi (aw Let.aG (ls.take k))) 0 ls.length (bl _) ?_ ?_
 .simp only[go_sem];first|exact⟨rfl,rfl⟩|exact⟨rfl,rfl,rfl⟩
 rintro k ak aj hk ⟨dd,hB,ko,iD⟩
 by_cases au:k<ls.length
 .obtain⟨l,cP⟩:=aM au;have hi:=ia cP;have aL:((k:Int)<(ls.length:Int)):=aa;have hb:=y7 (Let.aG) ls k;have w1:=cA (n:=k) aa;have w2:=cA (n:=aw (Let.aG) (ls.take k)) aa;cases hp:(l.kind==1) with
  |true=>have hc:=sk (p:=Let.aG) cP hp;simp only[go_sem,i32_l1,dd,hB,ko,iD,hi,Let.ps,aL,w1,w2,hp,hc];first|exact au|exact⟨au,rfl⟩
  |false=>have hc:=jA (p:=Let.aG) cP hp;simp only[go_sem,i32_l1,dd,hB,ko,iD,hi,Let.ps,aL,w1,hp,hc];first|exact au|exact⟨au,rfl⟩
 have:k=ls.length:=aa;subst this;rw[jQ] at iD;simp only[go_sem,i32_l1,i32_r2,dd,hB,ko,iD,dT]
theorem Yc(f:Int)(ls:List Let)(hl:ls.length<=1000000):aK S 14 [dR f ls] (ri (aw Let.aC ls)):=by
 refine bh c14 ?_;simp only[go_sem,i14];refine cU (fun k ak aj=>ak 1=.one (.aY 896000000 1 0)/\aj 896000000=(1,some (.var (tz f ls)))/\ak 4=vi k/\ak 3=vi (aw Let.aC (ls.take k))) 0 ls.length (bl _) ?_ ?_
 .simp only[go_sem];first|exact⟨rfl,rfl⟩|exact⟨rfl,rfl,rfl⟩
 rintro k ak aj hk ⟨dd,hB,ko,iD⟩
 by_cases au:k<ls.length
 .obtain⟨l,cP⟩:=aM au;have hi:=ia cP;have aL:((k:Int)<(ls.length:Int)):=aa;have hb:=y7 (Let.aC) ls k;have w1:=cA (n:=k) aa;have w2:=cA (n:=aw (Let.aC) (ls.take k)) aa;cases hp:(l.kind==2) with
  |true=>have hc:=sk (p:=Let.aC) cP hp;simp only[go_sem,i14_l1,dd,hB,ko,iD,hi,Let.ps,aL,w1,w2,hp,hc];first|exact au|exact⟨au,rfl⟩
  |false=>have hc:=jA (p:=Let.aC) cP hp;simp only[go_sem,i14_l1,dd,hB,ko,iD,hi,Let.ps,aL,w1,hp,hc];first|exact au|exact⟨au,rfl⟩
 have:k=ls.length:=aa;subst this;rw[jQ] at iD;simp only[go_sem,i14_l1,i14_r2,dd,hB,ko,iD,dT]
theorem To(f:Int)(ls:List Let)(hl:ls.length<=1000000):aK S 5 [dR f ls] (ri ((aw Let.aC ls/2:Nat))):=by
 have hb:=tx Let.aC ls;have e1:IntKind.i64.wrap ((aw Let.aC ls:Int).tdiv 2)=((aw Let.aC ls/2:Nat):Int):=by
  have:(aw Let.aC ls:Int).tdiv 2=((aw Let.aC ls/2:Nat):Int):=by rw[aid aa];omega
  rw[this];exact wrap_small aa
 refine bh c5 ?_;simp only[go_sem,i5,s14,dY (Yc f ls hl),e1,(by decide:¬(2:Int)=0)]
theorem in_r(f:Int)(ls:List Let)(hl:ls.length<=1000000)(g:Int):aK S 56 [dR f ls,vi g] (ri (aw (nY g) ls)):=by
 refine bh c56 ?_;simp only[go_sem,i56];refine cU (fun k ak aj=>ak 2=.one (.aY 3584000000 1 0)/\aj 3584000000=(1,some (.var (tz f ls)))/\ak 6=vi k/\ak 5=vi (aw (nY g) (ls.take k))/\ak 1=vi g) 0 ls.length (bl _) ?_ ?_
 .simp only[go_sem];first|exact⟨rfl,rfl⟩|exact⟨rfl,rfl,rfl⟩
 rintro k ak aj hk ⟨dd,hB,ko,iD,Cu⟩
 by_cases au:k<ls.length
 .obtain⟨l,cP⟩:=aM au;have hi:=ia cP;have aL:((k:Int)<(ls.length:Int)):=aa;have hb:=y7 ((nY g)) ls k;have w1:=cA (n:=k) aa;have w2:=cA (n:=aw ((nY g)) (ls.take k)) aa;cases hp:(l.kind==1) with
  |true=>
   cases hq:(l.gate==g) with
   |true=>have hc:=sk (p:=(nY g)) cP (by simp only[nY,Let.aG,hp,hq];rfl);simp only[go_sem,i56_l1,dd,hB,ko,iD,hi,Let.ps,aL,w1,w2,Cu,hp,hq,hc];first|exact au|exact⟨au,rfl⟩
   |false=>have hc:=jA (p:=(nY g)) cP (by simp only[nY,Let.aG,hp,hq];rfl);simp only[go_sem,i56_l1,dd,hB,ko,iD,hi,Let.ps,aL,w1,Cu,hp,hq,hc];first|exact au|exact⟨au,rfl⟩
  |false=>have hc:=jA (p:=(nY g)) cP (by simp only[nY,Let.aG,hp];rfl);simp only[go_sem,i56_l1,dd,hB,ko,iD,hi,Let.ps,aL,w1,Cu,hp,hc];first|exact au|exact⟨au,rfl⟩
 have:k=ls.length:=aa;subst this;rw[jQ] at iD;simp only[go_sem,i56_l1,i56_r2,dd,hB,ko,iD,dT]
theorem auO(f:Int)(ls:List Let)(hl:ls.length<=1000000)(g:Int):aK S 57 [dR f ls,vi g] (ri (aw (lf g) ls)):=by
 refine bh c57 ?_;simp only[go_sem,i57];refine cU (fun k ak aj=>ak 2=.one (.aY 3648000000 1 0)/\aj 3648000000=(1,some (.var (tz f ls)))/\ak 6=vi k/\ak 5=vi (aw (lf g) (ls.take k))/\ak 1=vi g) 0 ls.length (bl _) ?_ ?_
 .simp only[go_sem];first|exact⟨rfl,rfl⟩|exact⟨rfl,rfl,rfl⟩
 rintro k ak aj hk ⟨dd,hB,ko,iD,Cu⟩
 by_cases au:k<ls.length
 .obtain⟨l,cP⟩:=aM au;have hi:=ia cP;have aL:((k:Int)<(ls.length:Int)):=aa;have hb:=y7 ((lf g)) ls k;have w1:=cA (n:=k) aa;have w2:=cA (n:=aw ((lf g)) (ls.take k)) aa;cases hp:(l.kind==2) with
  |true=>
   cases hq:(l.id==g) with
   |true=>have hc:=sk (p:=(lf g)) cP (by simp only[lf,Let.aC,hp,hq];rfl);simp only[go_sem,i57_l1,dd,hB,ko,iD,hi,Let.ps,aL,w1,w2,Cu,hp,hq,hc];first|exact au|exact⟨au,rfl⟩
   |false=>have hc:=jA (p:=(lf g)) cP (by simp only[lf,Let.aC,hp,hq];rfl);simp only[go_sem,i57_l1,dd,hB,ko,iD,hi,Let.ps,aL,w1,Cu,hp,hq,hc];first|exact au|exact⟨au,rfl⟩
  |false=>have hc:=jA (p:=(lf g)) cP (by simp only[lf,Let.aC,hp];rfl);simp only[go_sem,i57_l1,dd,hB,ko,iD,hi,Let.ps,aL,w1,Cu,hp,hc];first|exact au|exact⟨au,rfl⟩
 have:k=ls.length:=aa;subst this;rw[jQ] at iD;simp only[go_sem,i57_l1,i57_r2,dd,hB,ko,iD,dT]
def dn (ls:List Let)(i:Nat):Bool:=aw Let.aG (ls.take i)%2==0
theorem Tu(f:Int)(ls:List Let)(i:Nat)(hl:ls.length<=1000000)(zJ:i<=ls.length):aK S 85 [dR f ls,vi i] (rb (dn ls i)):=by
 refine bh c85 ?_;simp only[go_sem,i85];refine cU (fun k ak aj=>ak 1=vi i/\ak 2=.one (.aY 5440000000 1 0)/\aj 5440000000=(1,some (.var (tz f ls)))/\ak 6=vi k/\ak 5=vi (aw Let.aG (ls.take k))) 0 i (bl _) ?_ ?_
 .simp only[go_sem];exact⟨rfl,rfl⟩
 rintro k ak aj hk ⟨h1,dd,hB,ko,iD⟩
 have hb:=y7 Let.aG ls k;by_cases au:k<i
 .obtain⟨l,cP⟩:=aM (ls:=ls) (k:=k) aa;have hi:=ia cP;have aL:((k:Int)<(i:Int)):=aa;have w1:=cA (n:=k) aa;have w2:=cA (n:=aw Let.aG (ls.take k)) aa;cases hp:(l.kind==1) with
  |true=>have hc:=sk (p:=Let.aG) cP hp;simp only[go_sem,i85_l1,h1,dd,hB,ko,iD,hi,Let.ps,aL,w1,w2,hp,hc];exact au
  |false=>have hc:=jA (p:=Let.aG) cP hp;simp only[go_sem,i85_l1,h1,dd,hB,ko,iD,hi,Let.ps,aL,w1,hp,hc];exact au
 have:k=i:=aa;subst this;have e2:((((aw Let.aG (ls.take k))%2:Nat):Int)==0)=dn ls k:=by
  unfold dn;cases h:(aw Let.aG (ls.take k)%2==0) with
  |true=>simp at h ⊢;omega
  |false=>simp at h ⊢;omega
 simp only[go_sem,i85_l1,i85_r2,h1,ko,iD,dT,eo,jq,e2]
theorem apt(a b:Let):aK S 83 [.agg (a.ps.map .p),.agg (b.ps.map .p)] (rb (decide (a.gate<b.gate)||(a.gate==b.gate&&decide (a.aE<b.aE)))):=by
 refine bh c83 ?_;by_cases h1:a.gate<b.gate
 .simp only[go_sem,i83,Let.ps,h1]
 cases h2:(a.gate==b.gate) with
 |true=>simp only[go_sem,i83,Let.ps,h1,h2]
 |false=>simp only[go_sem,i83,Let.ps,h1,h2]
def dr(n i:Nat)(fw:Bool):Nat:=if fw then 2*i else 2*((i+n-1)%n)+1
theorem SB(f:Int)(ls:List Let)(i:Nat)(fw:Bool)(hl:ls.length<=1000000)(hi:i<ls.length):aK S 84 [dR f ls,vi i,vb fw] (ri (dr ls.length i fw)):=by
 refine bh c84 ?_;cases fw with
 |true=>have e:IntKind.i64.wrap (2*(i:Int))=((2*i:Nat):Int):=wrap_small (n:=2*i) aa;simp only[go_sem,i84,e,dr]
 |false=>
  have w1:IntKind.i64.wrap ((i:Int)+(ls.length:Int))=((i+ls.length:Nat):Int):=wrap_small (n:=i+ls.length) aa;have w2:IntKind.i64.wrap (((i+ls.length:Nat):Int)-1)=((i+ls.length-1:Nat):Int):=by have:(((i+ls.length:Nat):Int)-1)=((i+ls.length-1:Nat):Int):=aa;rw[this];exact wrap_small aa
  have e1:=uU (i+ls.length-1) ls.length;have hm:=dO (i+ls.length-1) (show 0<ls.length by omega);have w3:IntKind.i64.wrap (2*(((i+ls.length-1)%ls.length:Nat):Int))=((2*((i+ls.length-1)%ls.length):Nat):Int):=wrap_small (n:=2*((i+ls.length-1)%ls.length)) aa;have w4:=cA (n:=2*((i+ls.length-1)%ls.length)) aa;have hz:¬((ls.length:Int)=0):=aa;simp only[go_sem,i84,w1,w2,e1,w3,w4,hz,dr]
def Ac(ls:List Let)(i j:Nat):Bool:=j !=i&&(match ls[j]? with|some l=>l.aC&&l.id==((ls[i]?).map Let.id).getD 0|none=>false)
def fG(ls:List Let)(i:Nat):Nat:=((List.range ls.length).find? (Ac ls i)).getD i
theorem Cp{p:Nat->Bool}:∀ {n k:Nat},k<n->(∀j,j<k->p j=false)->p k=true->(List.range n).find? p=some k:=by intro n k hk hn hp;exact List.find?_range_eq_some.2 ⟨hp,by simpa using hk,fun j hj=>by simp[hn j hj]⟩
theorem IU{p:Nat->Bool}{n:Nat}(hn:∀j,j<n->p j=false):(List.range n).find? p=none:=by rw[K5];intro x hx;simp[hn x (by simpa using hx)]
theorem aqS(f:Int)(ls:List Let)(i:Nat)(hl:ls.length<=1000000)(zJ:i<ls.length):aK S 86 [dR f ls,vi i] (ri (fG ls i)):=by
 obtain⟨li,uF⟩:=aM zJ;have gD:=ia uF;have key:∀j l,ls[j]?=some l->Ac ls i j=(j !=i&&(l.aC&&l.id==li.id)):=fun j l h=>by simp[Ac,h,uF]
 refine bh c86 ?_;simp only[go_sem,i86];refine cU (fun k ak aj=>ak 1=vi i/\ak 2=.one (.aY 5504000000 1 0)/\aj 5504000000=(1,some (.var (tz f ls)))/\ak 5=vi k/\ ∀j,j<k->Ac ls i j=false) 0 ls.length (bl _) ?_ ?_
 .simp only[go_sem];exact⟨rfl,fun j h=>absurd h (nE j)⟩
 rintro k ak aj hk ⟨h1,dd,hB,ko,hn⟩
 by_cases au:k<ls.length
 .obtain⟨l,cP⟩:=aM au;have hi:=ia cP;have aL:((k:Int)<(ls.length:Int)):=aa;have w1:=cA (n:=k) aa;have Ep:=key k l cP;have step:Ac ls i k=false->∀j,j<k+1->Ac ls i j=false:=fun h j hj=>by
   rcases mU.1 hj with h2|rfl
   .exact hn j h2
   exact h
  by_cases hki:k=i
  .have hb:((k:Int)!=(i:Int))=false:=by simp[hki]
   have hs:=step (by rw[Ep];simp[hki]);simp only[go_sem,i86_l1,h1,dd,hB,ko,aL,w1,hb];exact⟨ah,au,hs⟩
  have hb:((k:Int)!=(i:Int))=true:=by simp;omega
  have bn:(k !=i)=true:=by simp[hki]
  cases hp:(l.kind==2) with
  |false=>have hs:=step (by rw[Ep,bn,Let.aC,hp];rfl);simp only[go_sem,i86_l1,h1,dd,hB,ko,hi,Let.ps,aL,w1,hb,hp];exact⟨ah,au,hs⟩
  |true=>
   cases hq:(l.id==li.id) with
   |false=>have hs:=step (by rw[Ep,bn,Let.aC,hp,hq];rfl);simp only[go_sem,i86_l1,h1,dd,hB,ko,hi,gD,Let.ps,aL,w1,hb,hp,hq];exact⟨ah,au,hs⟩
   |true=>
    have hf:fG ls i=k:=by unfold fG;rw[Cp au hn (by rw[Ep,bn,Let.aC,hp,hq];rfl)];rfl
    simp only[go_sem,i86_l1,h1,dd,hB,ko,hi,gD,Let.ps,aL,hb,hp,hq,hf];show sZ _ _ _=true
    kernel_rfl
 have:k=ls.length:=aa;subst this;have hf:fG ls i=i:=by unfold fG;rw[IU hn];rfl
 simp only[go_sem,i86_l1,i86_r2,h1,dd,hB,ko,dT,hf]
abbrev Bs(l:List Nat):PV:=.sl (l.map fun n:Nat=>[.int .i64 (n:Int)])
theorem at_r(l:List Nat)(n k0:Nat)(hl:l.length<=1000000)(A5:l[k0]?=some n)(hn:∀j,j<k0->l[j]? ≠some n):aK S 87 [.one (.p (Bs l)),vi n] (ri k0):=by
 have hk0l:=(aW.1 A5).1;refine bh c87 ?_;simp only[go_sem,i87];refine cU (fun k ak aj=>ak 0=.one (.p (Bs l))/\ak 1=vi n/\ak 5=vi k) 0 k0 (bl _) ?_ ?_
 .simp only[go_sem];rfl
 rintro k ak aj hk ⟨h0,h1,h5⟩
 have aL:((k:Int)<(l.length:Int)):=aa;have w1:=cA (n:=k) aa;obtain⟨m,hm⟩:=aM (ls:=l) (k:=k) aa;have hi:(l.map fun n:Nat=>[PV.int .i64 (n:Int)])[k]?=some [.int .i64 (m:Int)]:=by simp[hm]
 by_cases au:k<k0
 .have aI:((m:Int)==(n:Int))=false:=by
   have:m≠n:=fun e=>hn k au (by rw[hm,e]);simp;omega
  simp only[go_sem,i87_l1,h0,h1,h5,aL,w1,hi,aI];exact au
 have:k=k0:=aa;subst this;have e:m=n:=by rw[hm] at A5;exact rj A5
 subst e;simp only[go_sem,i87_l1,h0,h1,h5,aL,hi]
abbrev JT(l:Let):V:=.agg [.p (.int .i64 l.kind),.p (.int .i64 l.gate),.p (.int .i64 l.aE),.p (.int .i64 l.id),.p (.int .i64 l.sign),.p (.bool l.over)]
def GO(a b:Let):Bool:=decide (a.gate<b.gate)||(a.gate==b.gate&&decide (a.aE<b.aE))
theorem apu(a b:Let):aK S 83 [JT a,JT b] (rb (GO a b)):=apt a b
abbrev nP(o:List Nat):List (List PV):=o.map fun n:Nat=>[PV.int .i64 (n:Int)]
theorem jY{o:List Nat}{k n:Nat}(h:o[k]?=some n):(nP o)[k]?=some [.int .i64 (n:Int)]:=by simp[h]
def Bk(ls:List Let)(i j:Nat):Bool:=match ls[j]?,ls[i]? with
 |some a,some b=>GO a b
 |_,_=>false
def zW(ls:List Let)(o:List Nat)(i:Nat):List Nat:=o.take (o.takeWhile (Bk ls i)).length++i::o.drop (o.takeWhile (Bk ls i)).length
def Ay(ls:List Let)(o:List Nat)(i:Nat):List Nat:=match ls[i]? with
 |some l=>if l.aG then zW ls o i else o
 |none=>o
def aB(ls:List Let):List Nat:=(List.range ls.length).foldl (Ay ls) []
def nK(ls:List Let)(k:Nat):List Nat:=(List.range k).foldl (Ay ls) []
theorem Ih(ls:List Let)(k:Nat):nK ls (k+1)=Ay ls (nK ls k) k:=by unfold nK;rw[we,HF];rfl
theorem ajz{ls:List Let}{o:List Nat}{i:Nat}{x:Nat}(h:x∈Ay ls o i):x∈o\/x=i:=by
 unfold Ay at h;split at h
 .split at h
  .unfold zW at h;rcases eD.1 h with h|h
   .exact .inl (xv h)
   rcases cM.1 h with h|h
   .exact .inr h
   exact .inl (wa h)
  exact .inl h
 exact .inl h
theorem OX{ls:List Let}:∀ {k x:Nat},x∈nK ls k->x<k:=by
 intro k
 induction k with
 |zero=>intro x h;simp[nK] at h
 |succ k ih=>
  intro x h;rw[Ih] at h;rcases ajz h with h|h
  .have:=ih h;omega
  omega
theorem wC(ls:List Let):∀k,(nK ls k).length<=k:=by
 intro k
 induction k with
 |zero=>simp[nK]
 |succ k ih=>
  rw[Ih];unfold Ay;split
  .split
   .unfold zW;simp only[ff,dh,fX,jy];omega
   omega
  omega
def EW(site:Nat)(o:List Nat)(v:V)(aj:aA):Prop:=(o=[]/\v=.one (.p .nils))\/(o≠[]/\ ∃g,v=.one (.hsl site g 1 0 o.length)/\aj site=(g,some (.arr 3 1 (nP o))))
theorem ajB{o:List Nat}{i K:Nat}{ak:Env}{aj:aA}{Q:dD}(ho:EW 3712576640 o (ak 3) aj)(h4:ak 4=vi i)(h5:ak 5=vi K)(hK:K<=o.length)(hl:o.length<=1000000)
  (hq:∀aD ao,aD 1=ak 1->aD 4=ak 4->ao 3712000000=aj 3712000000->EW 3712576640 (o.take K++i::o.drop K) (aD 3) ao->Q .normal aD ao):
  W S .all i58_r2 Q ak aj:=by
 rcases ho with ⟨rfl,h3⟩|⟨ho,g,h3,hC⟩
 .have hK0:K=0:=by simpa using hK
  subst hK0;simp only[go_sem,i58_r2,h3,h4,h5,fL,gV];refine⟨ah,hq _ _ ?_ ?_ ?_ (.inr ⟨af,(aj 3712576640).1+1,?_,?_⟩)⟩;all_goals simp only[go_sem]
 have kx:∀n:Nat,n<=1000001->n*8<=140737488355328:=fun n hn=>aa;by_cases hK0:K=0
 .subst hK0;have ht:List.take o.length (nP o)=nP o:=fR af;have jE:=kx (1+o.length) aa;simp only[go_sem,i58_r2,h3,h4,h5,hC,ht,jE,fL,gV];refine⟨ah,hq _ _ ?_ ?_ ?_ (.inr ⟨af,g+1,?_,?_⟩)⟩;all_goals simp only[go_sem]
  simp;omega
 have ht:(List.take K (nP o)).length=K:=by simp;omega
 have htt:List.take K (List.take K (nP o))=List.take K (nP o):=by rw[HL,Nat.min_self]
 have l9:List.take (K+1) (List.take K (nP o)++[[PV.int .i64 (i:Int)]])=List.take K (nP o)++[[PV.int .i64 (i:Int)]]:=fR (by simp;omega);have htd:List.take (o.length-K) (List.drop K (nP o))=List.drop K (nP o):=fR af;have hld:(List.drop K (nP o)).length=o.length-K:=af;have vu:(List.take K (nP o)++[[PV.int .i64 (i:Int)]]).length=K+1:=by simp;omega
 have jE:=kx K aa;have vA:=kx (K+1) aa;have hr3:=kx (K+1+(o.length-K)) aa;have hle:K+(o.length-K)<=o.length:=aa;simp only[go_sem,i58_r2,h3,h4,h5,hC,hK,ht,hK0,jE,vA,hr3,htt,l9,htd,hld,vu,hle,fL,gV];refine⟨ah,hq _ _ ?_ ?_ ?_ (.inr ⟨af,g+1,?_,?_⟩)⟩;all_goals simp only[go_sem]
 .simp;omega
 simp
theorem auF{α:Type}{p:α->Bool}{l:List α}{K:Nat}(hK:K<=l.length)(h1:∀j x,j<K->l[j]?=some x->p x=true)(h2:∀x,l[K]?=some x->p x=false):(l.takeWhile p).length=K:=by
 induction l generalizing K with
 |nil=>simp at hK ⊢;omega
 |cons a l ih=>
  cases K with
  |zero=>have:=h2 a rfl;simp[List.takeWhile,this]
  |succ K=>have:=h1 0 a aa rfl;simp only[List.takeWhile,this,dh];rw[ih (by simpa using hK) (fun j x hj hx=>h1 (j+1) x aa (by simpa using hx)) (fun x hx=>h2 x (by simpa using hx))]
theorem ajD{ls:List Let}{f:Int}{o:List Nat}{i:Nat}{li:Let}{ak:Env}{aj:aA}{Q:dD}(ho:EW 3712576640 o (ak 3) aj)(h1:ak 1=.one (.aY 3712000000 1 0))(hB:aj 3712000000=(1,some (.var (tz f ls))))(h4:ak 4=vi i)(h5:ak 5=vi 0)
  (uF:ls[i]?=some li) (au:∀x∈o,x<ls.length) (hl:o.length<=1000000)
  (hq:∀aD ao,aD 1=ak 1->aD 4=ak 4->ao 3712000000=aj 3712000000->EW 3712576640 (zW ls o i) (aD 3) ao->Q .normal aD ao):
  W S .all (.loop i58_l1) (lU 2 (yF S .all i58_r2 Q)) ak aj:=by
 have gD:=ia uF;refine cU (fun k aD ao=>aD 1=ak 1/\aD 4=ak 4/\aD 3=ak 3/\ao=aj/\aD 5=vi k/\ ∀j x,j<k->o[j]?=some x->Bk ls i x=true) 0 o.length (bl _) ?_ ?_
 .exact⟨rfl,rfl,rfl,rfl,h5,fun j x hj=>absurd hj (nE j)⟩
 rintro k aD ao hk ⟨jB,uA,qd,rfl,Ed,hp⟩
 rw[h1] at jB;rw[h4] at uA;have fin:∀e:Env,e 1=aD 1->e 4=aD 4->e 3=aD 3->e 5=aD 5->(∀x,o[k]?=some x->Bk ls i x=false)->W S .all i58_r2 Q e ao:=by
  intro e e1 e4 e3 e5 jk;have hK:=auF hk hp jk;have kQ:EW 3712576640 o (e 3) ao:=by rw[e3,qd];exact ho
  refine ajB (i:=i) (K:=k) kQ (by rw[e4,uA]) (by rw[e5,Ed]) hk hl ?_;intro cZ bj q1 q2 q3 q4;refine hq cZ bj (by rw[q1,e1,jB,h1]) (by rw[q2,e4,uA,h4]) q3 ?_;unfold zW;rw[hK];exact q4
 by_cases cP:k<o.length
 .obtain⟨x,hx⟩:=aM cP;have vG:=au x (aU hx);obtain⟨lx,Js⟩:=aM vG;have jl:=ia Js;have Gt:=jY hx;have aL:((k:Int)<(o.length:Int)):=aa;have w1:=cA (n:=k) aa;have adj:Bk ls i x=GO lx li:=by simp[Bk,Js,uF]
  have QW:=apu lx li;rcases ho with ⟨rfl,_⟩|⟨ho,g,h3,hC⟩
  .simp at cP
  rw[h3] at qd;cases hb:GO lx li with
  |true=>
   rw[hb] at QW;simp only[go_sem,i58_l1,h1,h3,h4,jB,qd,uA,Ed,hB,hC,aL,Gt,jl,gD,Let.ps,cP,w1,s83,mE QW];refine⟨ah,fun j y hj hy=>?_⟩;rcases mU.1 hj with hj|rfl
   .exact hp j y hj hy
   rw[hx] at hy;cases hy;rw[adj,hb]
  |false=>rw[hb] at QW;simp only[go_sem,i58_l1,jB,qd,uA,Ed,hB,hC,aL,Gt,jl,gD,Let.ps,cP,s83,mE QW];refine⟨ah,fin _ ?_ ?_ ?_ ?_ (fun y hy=>by rw[hx] at hy;cases hy;rw[adj,hb])⟩;all_goals simp only[go_sem,jB,qd,uA,Ed]
 have:k=o.length:=aa;subst this;have dk:∀x,o[o.length]?=some x->Bk ls i x=false:=fun x hx=>by simp at hx
 rcases ho with ⟨rfl,h3⟩|⟨ho,g,h3,hC⟩
 .rw[h3] at qd;simp only[go_sem,i58_l1,qd,Ed,dT];refine⟨ah,fin _ ?_ ?_ ?_ ?_ dk⟩;all_goals simp only[go_sem,jB,qd,uA,Ed]
 rw[h3] at qd;simp only[go_sem,i58_l1,qd,Ed,dT];refine⟨ah,fin _ ?_ ?_ ?_ ?_ dk⟩;all_goals simp only[go_sem,jB,qd,uA,Ed]
theorem aoM(ls:List Let)(o:List Nat)(i:Nat):(zW ls o i).length=o.length+1:=by unfold zW;simp only[ff,dh,fX,jy];have:=(List.takeWhile_sublist (Bk ls i) (l:=o)).length_le;omega
theorem Km{aj:aA}{id g z len ty:Nat}{es:List (List PV)}(h:aj id=(g,some (.arr ty z es)))(hl:len=es.length):iE aj (.one (.hsl id g z 0 len))=some (.one (.own ty z es)):=by subst hl;simp only[iE,sv,ng,mj,jv,h,bJ,and_self,if_true,jQ];rfl
def OY(o:List Nat):RC:=if o=[] then .p .nils else .own 3 1 (nP o)
theorem ajI(f:Int)(ls:List Let)(hl:ls.length<=1000000):aK S 58 [dR f ls] (.one (OY (aB ls))):=by
 refine bh c58 ?_;simp only[go_sem,i58];refine cU (fun k ak aj=>ak 1=.one (.aY 3712000000 1 0)/\aj 3712000000=(1,some (.var (tz f ls)))/\ak 4=vi k/\EW 3712576640 (nK ls k) (ak 3) aj) 0 ls.length (bl _) ?_ ?_
 .simp only[go_sem];exact⟨rfl,.inl ⟨rfl,rfl⟩⟩
 rintro k ak aj hk ⟨h1,hB,h4,ho⟩
 have ef:=wC ls k;by_cases au:k<ls.length
 .obtain⟨l,cP⟩:=aM au;have hi:=ia cP;have aL:((k:Int)<(ls.length:Int)):=aa;have w1:=cA (n:=k) aa;have hs:=Ih ls k;unfold Ay at hs;rw[cP] at hs;cases hp:(l.kind==1) with
  |false=>
   have nu:(l.kind !=1)=true:=by simp[bne,hp]
   simp only[Let.aG,hp] at hs;have hs:nK ls (k+1)=nK ls k:=hs;simp only[go_sem,i58_l4,i58_r3,h1,hB,h4,hi,Let.ps,aL,nu,w1,hs,au];rcases ho with ⟨e,h3⟩|⟨ho,g,h3,hC⟩
   .exact .inl ⟨e,by simp only[go_sem,h3]⟩
   exact .inr ⟨ho,g,by simp only[go_sem,h3],by simp only[go_sem,hC]⟩
  |true=>
   have nu:(l.kind !=1)=false:=by simp[bne,hp]
   simp only[Let.aG,hp] at hs;have hs:nK ls (k+1)=zW ls (nK ls k) k:=hs;simp only[go_sem,i58_l4,h1,hB,h4,hi,Let.ps,aL,nu];refine ajD (ls:=ls) (f:=f) (o:=nK ls k) (i:=k) ?_ ?_ ?_ ?_ ?_ cP (fun x hx=>Nat.lt_trans (OX hx) au) aa ?_
   .rcases ho with ⟨e,h3⟩|⟨ho,g,h3,hC⟩
    .exact .inl ⟨e,by simp only[go_sem,h3]⟩
    exact .inr ⟨ho,g,by simp only[go_sem,h3],by simp only[go_sem,hC]⟩
   .simp only[go_sem,h1]
   .simp only[go_sem,hB]
   .simp only[go_sem,h4]
   .rfl
   intro aD ao q1 q2 q3 q4;simp only[go_sem,h1,h4,hB] at q1 q2 q3;simp only[go_sem,i58_r3,q1,q2,q3,w1,hs,au];rcases q4 with ⟨e,h3⟩|⟨ho,g,h3,hC⟩
   .exact .inl ⟨e,by simp only[go_sem,h3]⟩
   exact .inr ⟨ho,g,by simp only[go_sem,h3],by simp only[go_sem,hC]⟩
 have:k=ls.length:=aa;subst this;have he:aB ls=nK ls ls.length:=rfl;rw[<- he] at ho;rcases ho with ⟨e,h3⟩|⟨ho,g,h3,hC⟩
 .simp only[go_sem,i58_l4,i58_r5,h1,hB,h3,h4,dT,OY,e]
 simp only[go_sem,i58_l4,i58_r5,h1,hB,h3,h4,dT,OY,ho];exact Km hC af
def gH(ls:List Let)(ax:List Nat)(d:Nat):Nat:=
 if 2*ls.length<=d then
  if d%2=0 then dr ls.length (ax.getD (((d-2*ls.length)/2+1)%ax.length) 0) (!dn ls (ax.getD (((d-2*ls.length)/2+1)%ax.length) 0))
  else dr ls.length (ax.getD ((d-2*ls.length)/2) 0) (dn ls (ax.getD ((d-2*ls.length)/2) 0))
 else
  let fw:=d%2==0
  let v:=if fw then (d/2+1)%ls.length else d/2
  match ls[v]? with
  |none=>0
  |some l=>if l.kind==2 then dr ls.length (fG ls v) (fw==(l.over==(l.sign==1)))
   else if dn ls v==fw then 2*ls.length+2*ax.idxOf v else 2*ls.length+2*((ax.idxOf v+ax.length-1)%ax.length)+1
theorem afR{ls:List Let}{i:Nat}(hi:i<ls.length):fG ls i<ls.length:=by
 unfold fG;cases h:(List.range ls.length).find? (Ac ls i) with
 |none=>exact hi
 |some k=>
  have:=Lb h
  simpa using this
theorem Ia{n i:Nat}{fw:Bool}(hi:i<n):dr n i fw<2*n:=by unfold dr;have:=dO (i+n-1) (show 0<n by omega);split<;>omega
theorem RX{ls:List Let}{ax:List Nat}{d:Nat}(jD:∀x∈ax,x<ls.length)(hp:∀v l,ls[v]?=some l->(l.kind==2)=false->v∈ax)(hd:d<2*ls.length+2*ax.length):gH ls ax d<2*ls.length+2*ax.length:=by
 have CF:∀k,k<ax.length->ax.getD k 0<ls.length:=fun k hk=>by obtain⟨x,hx⟩:=aM hk;rw[di,hx];exact jD x (aU hx)
 unfold gH;by_cases h:2*ls.length<=d
 .rw[aF h];have hm:=dO ((d-2*ls.length)/2+1) (show 0<ax.length by omega);by_cases h2:d%2=0
  .rw[aF h2];exact DB (Ia (CF _ hm)) aa
  rw[ay h2];exact DB (Ia (CF _ aa)) aa
 rw[ay h];have hn:0<ls.length:=aa;have hv:(if (d%2==0)=true then (d/2+1)%ls.length else d/2)<ls.length:=by
  split
  .exact dO _ hn
  omega
 simp only;generalize (if (d%2==0)=true then (d/2+1)%ls.length else d/2)=v at hv;obtain⟨l,hl⟩:=aM hv;rw[hl];simp only;by_cases hk:(l.kind==2)=true
 .rw[aF hk];exact DB (Ia (afR hv)) aa
 rw[ay hk];have kr:=hp v l hl (by simpa using hk);have CG:ax.idxOf v<ax.length:=OD.2 kr;have hm:=dO (ax.idxOf v+ax.length-1) (show 0<ax.length by omega);split<;>omega
theorem aoB{ax:List Nat}{v:Nat}:∀j,j<ax.idxOf v->ax[j]? ≠some v:=by
 induction ax with
 |nil=>intro j h;simp at h
 |cons a ax ih=>
  intro j h e;rw[Sh] at h;by_cases ha:a=v
  .simp[ha] at h
  have hb:(a==v)=false:=by simpa using ha
  rw[hb] at h;cases j with
  |zero=>simp at e;exact ha e
  |succ j=>exact ih j (by simp at h;omega) (by simpa using e)
theorem adC{ax:List Nat}{v:Nat}(h:v∈ax):ax[ax.idxOf v]?=some v:=by have hl:ax.idxOf v<ax.length:=OD.2 h;rw[my hl,Yu hl]
theorem au6(f:Int)(ls:List Let)(ax:List Nat)(d:Nat)(hl:ls.length<=1000000)(fi:ax.length<=1000000)(jD:∀x∈ax,x<ls.length)(hp:∀v l,ls[v]?=some l->(l.kind==2)=false->v∈ax)
  (hd:d<2*ls.length+2*ax.length):aK S 59 [dR f ls,.one (.p (Bs ax)),vi d] (ri (gH ls ax d)):=by
 have m1:IntKind.i64.wrap (2*(ls.length:Int))=((2*ls.length:Nat):Int):=wrap_small (n:=2*ls.length) aa;unfold gH;by_cases h:2*ls.length<=d
 .rw[aF h];refine bh c59 ?_;have h':((2*ls.length:Nat):Int)<=(d:Int):=aa;have m2:IntKind.i64.wrap ((d:Int)-((2*ls.length:Nat):Int))=((d-2*ls.length:Nat):Int):=by
   have:((d:Int)-((2*ls.length:Nat):Int))=((d-2*ls.length:Nat):Int):=aa;rw[this];exact wrap_small aa
  have m3:=wrap_small (n:=(d-2*ls.length)/2) aa;have hm:=dO ((d-2*ls.length)/2+1) (show 0<ax.length by omega);have nT:¬((ax.length:Int)=0):=aa;by_cases h2:d%2=0
  .rw[aF h2];have m4:=cA (n:=(d-2*ls.length)/2) aa;have iV:(((d%2:Nat):Int)==0)=true:=by simp[h2]
   have m5:=uU ((d-2*ls.length)/2+1) ax.length;obtain⟨v,hv⟩:=aM hm;have qo:ax.getD (((d-2*ls.length)/2+1)%ax.length) 0=v:=by rw[di,hv];rfl
   rw[qo];have rL:=jD v (aU hv);have Ba:=jY hv;have pd:=Tu f ls v hl aa;have pa:=SB f ls v (!dn ls v) hl rL;simp only[go_sem,i59,m1,m2,m3,m4,m5,h',iV,Ba,nT,jq,fv,eo,s85,s84,mE pd,gJ pa];exact aH
  rw[ay h2];have iV:(((d%2:Nat):Int)==0)=false:=by simp;omega
  obtain⟨v,hv⟩:=aM (ls:=ax) (k:=(d-2*ls.length)/2) aa;have qo:ax.getD ((d-2*ls.length)/2) 0=v:=by rw[di,hv];rfl
  rw[qo];have rL:=jD v (aU hv);have Ba:=jY hv;have pd:=Tu f ls v hl aa;have pa:=SB f ls v (dn ls v) hl rL;simp only[go_sem,i59,m1,m2,m3,h',iV,Ba,jq,fv,eo,s85,s84,mE pd,gJ pa];exact aH
 rw[ay h];have h':¬(((2*ls.length:Nat):Int)<=(d:Int)):=aa;have m3:=wrap_small (n:=d/2) aa;have iu:¬((ls.length:Int)=0):=aa;have nT:=dO (d/2+1) (show 0<ls.length by omega);have m4:=cA (n:=d/2) aa;have m5:=uU (d/2+1) ls.length;have body:∀v:Nat,v<ls.length->∀fw:Bool,v=(if fw then (d/2+1)%ls.length else d/2)->(d%2==0)=fw->(((d%2:Nat):Int)==0)=fw->aK S 59 [dR f ls,.one (.p (Bs ax)),vi d] (ri ((match ls[v]? with
   |none=>0
   |some l=>if l.kind==2 then dr ls.length (fG ls v) (fw==(l.over==(l.sign==1)))
    else if dn ls v==fw then 2*ls.length+2*ax.idxOf v else 2*ls.length+2*((ax.idxOf v+ax.length-1)%ax.length)+1:Nat):Int)):=by
  intro v hv fw fe xZ qN;obtain⟨l,nQ⟩:=aM hv;have fO:=ia nQ;rw[nQ];simp only;refine bh c59 ?_;cases hk:(l.kind==2) with
  |true=>
   have po:=aqS f ls v hl hv;have pa:=SB f ls (fG ls v) (fw==(l.over==(l.sign==1))) hl (afR hv);cases fw with
   |true=>have fe:v=(d/2+1)%ls.length:=fe;rw[fe] at fO po pa ⊢;simp only[go_sem,i59,m1,m3,m4,m5,h',qN,fO,Let.ps,iu,hk,jq,fv,eo,s86,s84,gJ po,gJ pa];exact aH
   |false=>have fe:v=d/2:=fe;rw[fe] at fO po pa ⊢;simp only[go_sem,i59,m1,m3,h',qN,fO,Let.ps,hk,jq,fv,eo,s86,s84,gJ po,gJ pa];exact aH
  |false=>
   have kr:=hp v l nQ hk;have CG:ax.idxOf v<ax.length:=OD.2 kr;have pat:=at_r ax v (ax.idxOf v) fi (adC kr) aoB;have pd:=Tu f ls v hl aa;have MZ:¬((ax.length:Int)=0):=aa;have nj:=dO (ax.idxOf v+ax.length-1) (show 0<ax.length by omega);have n1:=ue (a:=ax.idxOf v) aa;have n2:=wrap_add (a:=2*ls.length) (b:=2*ax.idxOf v) aa;have n3:=wrap_add (a:=ax.idxOf v) (b:=ax.length) aa;have n4:=Hv (a:=ax.idxOf v+ax.length) aa aa;have n5:=uU (ax.idxOf v+ax.length-1) ax.length;have n6:=ue (a:=(ax.idxOf v+ax.length-1)%ax.length) aa;have n7:=wrap_add (a:=2*ls.length) (b:=2*((ax.idxOf v+ax.length-1)%ax.length)) aa;have n8:=cA (n:=2*ls.length+2*((ax.idxOf v+ax.length-1)%ax.length)) aa;cases fw with
   |true=>
    have fe:v=(d/2+1)%ls.length:=fe;cases eS:dn ls v with
    |true=>rw[eS] at pd;subst fe;simp only[go_sem,i59,m1,m3,m4,m5,h',qN,fO,Let.ps,iu,hk,jq,fv,eo,s87,s85,dY pat,dA pd,n1,n2]
    |false=>rw[eS] at pd;subst fe;simp only[go_sem,i59,m1,m3,m4,m5,h',qN,fO,Let.ps,iu,hk,jq,fv,eo,s87,s85,dY pat,dA pd,n3,n4,n5,n6,n7,n8,MZ]
   |false=>
    have fe:v=d/2:=fe;cases eS:dn ls v with
    |true=>rw[eS] at pd;subst fe;simp only[go_sem,i59,m1,m3,h',qN,fO,Let.ps,hk,jq,fv,eo,s87,s85,dY pat,dA pd,n3,n4,n5,n6,n7,n8,MZ]
    |false=>rw[eS] at pd;subst fe;simp only[go_sem,i59,m1,m3,h',qN,fO,Let.ps,hk,jq,fv,eo,s87,s85,dY pat,dA pd,n1,n2]
 have rL:(if (d%2==0)=true then (d/2+1)%ls.length else d/2)<ls.length:=by
  split
  .exact nT
  omega
 have:=body _ rL (d%2==0) rfl rfl (by cases hq:(d%2==0)<;>simp at hq ⊢ <;>omega);exact this
abbrev bP(o:List Bool):List (List PV):=o.map fun b:Bool=>[PV.bool b]
theorem sa{o:List Bool}{k:Nat}{b:Bool}(h:o[k]?=some b):(bP o)[k]?=some [.bool b]:=by simp[h]
theorem Ik(o:List Bool)(k:Nat)(b:Bool):(bP o).set k [.bool b]=bP (o.set k b):=by simp[K9]
def eV(next:Nat->Nat):Nat->Nat->List Bool->List Nat×List Bool
 |0,_,seen=>([],seen)
 |k+1,x,seen=>if seen.getD x true then ([],seen) else (x::(eV next k (next x) (seen.set x true)).1,(eV next k (next x) (seen.set x true)).2)
def yG(s:List Bool):Nat:=s.countP (fun b=> !b)
theorem On{s:List Bool}{x:Nat}(h:s[x]?=some false):yG (s.set x true)+1=yG s:=by
 induction s generalizing x with
 |nil=>simp at h
 |cons b s ih=>
  cases x with
  |zero=>simp at h;subst h;simp[yG]
  |succ x=>have:=ih (x:=x) (by simpa using h);unfold yG at this ⊢;simp only[List.set_cons_succ,xr];omega
theorem avg(next:Nat->Nat):∀(k x:Nat) (s:List Bool),(eV next k x s).2.length=s.length:=by
 intro k
 induction k with
 |zero=>intro x s;rfl
 |succ k ih=>
  intro x s;unfold eV;split
  .rfl
  simp[ih]
def uX(next:Nat->Nat)(st:List (List Nat)×List Bool)(d:Nat):List (List Nat)×List Bool:=if st.2.getD d true then st else (st.1++[(eV next (st.2.length+1) d st.2).1],(eV next (st.2.length+1) d st.2).2)
def dG(next:Nat->Nat)(N k:Nat):List (List Nat)×List Bool:=(List.range k).foldl (uX next) ([],List.replicate N false)
def gI(next:Nat->Nat)(N:Nat):List (List Nat):=(dG next N N).1
theorem yH(next:Nat->Nat)(N k:Nat):dG next N (k+1)=uX next (dG next N k) k:=by unfold dG;rw[we,HF];rfl
theorem Hr(next:Nat->Nat)(N:Nat):∀k,(dG next N k).2.length=N:=by
 intro k
 induction k with
 |zero=>simp[dG]
 |succ k ih=>
  rw[yH];unfold uX;split
  .exact ih
  simp[avg,ih]
theorem avo(next:Nat->Nat)(N k:Nat)(hk:1<=k)(hN:1<=N):(dG next N k).1≠[]:=by
 induction k with
 |zero=>omega
 |succ k ih=>
  rw[yH];by_cases h0:k=0
  .subst h0;have hz:(dG next N 0)=([],List.replicate N false):=rfl;have hg:(List.replicate N false).getD 0 true=false:=by
    obtain⟨n,rfl⟩:∃n,N=n+1:=⟨N-1,aa⟩;rfl
   rw[hz];unfold uX;simp only[hg];simp
  have:=ih aa;unfold uX;split
  .exact this
  simp
theorem Ot(next:Nat->Nat)(N:Nat):∀k,(dG next N k).1.length<=k:=by
 intro k
 induction k with
 |zero=>simp[dG]
 |succ k ih=>
  rw[yH];unfold uX;split
  .omega
  simp;exact ih
theorem KP(s:List Bool):yG s<=s.length:=KZ
theorem avj{ls:List Let}{ax:List Nat}(hl:ls.length<=1000000)(fi:ax.length<=1000000)(jD:∀x∈ax,x<ls.length)(hp:∀v l,ls[v]?=some l->(l.kind==2)=false->v∈ax){Q:dD}:
  ∀(fuel x:Nat) (sn:List Bool) (w:List Nat) (ak:Env) (aj:aA),ak 1=.one (.aY 2176000000 1 0)->aj 2176000000=(1,some (.var (tz f ls)))->
   ak 4=.one (.hsl 2176128064 1 1 0 ax.length)->aj 2176128064=(1,some (.arr 3 1 (nP ax)))->ak 5=.one (.hsl 2176192512 1 1 0 sn.length)->aj 2176192512=(1,some (.arr 4 1 (bP sn)))->
   EW 2176832192 w (ak 7) aj->ak 8=vi x->x<sn.length->sn.length=2*ls.length+2*ax.length->yG sn<fuel->w.length+yG sn<=5000000->
   (∀aD ao,aD 1=ak 1->aD 3=ak 3->aD 4=ak 4->aD 5=ak 5->aD 6=ak 6->ao 2176000000=aj 2176000000->ao 2176128064=aj 2176128064->ao 2176896192=aj 2176896192->ao 2176896128=aj 2176896128->
    ao 2176192512=(1,some (.arr 4 1 (bP (eV (gH ls ax) fuel x sn).2)))->EW 2176832192 (w++(eV (gH ls ax) fuel x sn).1) (aD 7) ao->Q .normal aD ao)->
   W S .all (.loop i34_l1) (lU 2 Q) ak aj:=by
 intro fuel
 induction fuel with
 |zero=>intro x sn w ak aj _ _ _ _ _ _ _ _ _ _ h;omega
 |succ fuel ih=>
  intro x sn w ak aj h1 hB h4 hA h5 hS ho h8 hx hsl hu hw hq;obtain⟨b,hb⟩:=aM hx;have ki:=sa hb;have vq:sn.getD x true=b:=by rw[di,hb];rfl
  unfold eV at hq;rw[vq] at hq;refine rm ?_;cases b with
  |true=>
   simp only[go_sem,i34_l1,h5,hS,h8,hx,ki];refine hq _ _ ?_ ?_ ?_ ?_ ?_ rfl rfl rfl rfl hS ?_;all_goals simp only[go_sem]
   exact ho
  |false=>
   have zU:=On hb;have pt:=au6 f ls ax x hl fi jD hp aa;have js:=RX (d:=x) jD hp aa;have gQ:=Ik sn x true;have kx:∀n:Nat,n<=5000001->n*8<=140737488355328:=fun n hn=>aa;have Gz:List.take ax.length (nP ax)=nP ax:=fR af;rcases ho with ⟨rfl,h7⟩|⟨Qk,g,h7,hC⟩
   .simp only[go_sem,i34_l1,h1,hB,h4,hA,h5,hS,h7,h8,hx,ki,gQ,Gz,s59,dY pt,fL,gV];refine ih (gH ls ax x) (sn.set x true) [x] _ _ ?_ ?_ ?_ ?_ ?_ ?_ ?_ ?_ (by simpa [hsl] using js) (by simpa using hsl) aa (by simp;omega) ?_
    .simp only[go_sem,h1]
    .simp only[go_sem,hB]
    .simp only[go_sem,h4]
    .simp only[go_sem,hA]
    .simp only[go_sem,h5,tk]
    .simp only[go_sem]
    .simp only[go_sem];exact .inr ⟨af,_,rfl,rfl⟩
    .simp only[go_sem]
    intro aD ao q1 q3 q4 q5 q6 b1 b2 b3 b4 b5 b6;refine hq aD ao ?_ ?_ ?_ ?_ ?_ ?_ ?_ ?_ ?_ b5 ?_
    .rw[q1];simp only[go_sem]
    .rw[q3];simp only[go_sem]
    .rw[q4];simp only[go_sem]
    .rw[q5];simp only[go_sem]
    .rw[q6];simp only[go_sem]
    .rw[b1];simp only[go_sem]
    .rw[b2];simp only[go_sem]
    .rw[b3];simp only[go_sem]
    .rw[b4];simp only[go_sem]
    simpa using b6
   have tN:List.take w.length (nP w)=nP w:=fR af;have jE:=kx (w.length+1) aa;simp only[go_sem,i34_l1,h1,hB,h4,hA,h5,hS,h7,h8,hx,ki,gQ,Gz,s59,dY pt,hC,tN,jE,fL,gV];refine ih (gH ls ax x) (sn.set x true) (w++[x]) _ _ ?_ ?_ ?_ ?_ ?_ ?_ ?_ ?_ (by simpa [hsl] using js) (by simpa using hsl) aa (by simp;omega) ?_
   .simp only[go_sem,h1]
   .simp only[go_sem,hB]
   .simp only[go_sem,h4]
   .simp only[go_sem,hA]
   .simp only[go_sem,h5,tk]
   .simp only[go_sem]
   .simp only[go_sem];exact .inr ⟨af,g+1,af,by simp[aN]⟩
   .simp only[go_sem]
   intro aD ao q1 q3 q4 q5 q6 b1 b2 b3 b4 b5 b6;refine hq aD ao ?_ ?_ ?_ ?_ ?_ ?_ ?_ ?_ ?_ b5 ?_
   .rw[q1];simp only[go_sem]
   .rw[q3];simp only[go_sem]
   .rw[q4];simp only[go_sem]
   .rw[q5];simp only[go_sem]
   .rw[q6];simp only[go_sem]
   .rw[b1];simp only[go_sem]
   .rw[b2];simp only[go_sem]
   .rw[b3];simp only[go_sem]
   .rw[b4];simp only[go_sem]
   simpa using b6
def outW(site:Nat)(o:List (List Nat))(v:V)(aj:aA):Prop:=(o=[]/\v=.one (.p .nils))\/(o≠[]/\ ∃g,v=.one (.hsl site g 1 0 o.length)/\aj site=(g,some (.arr 43 1 (o.map fun w=>[Bs w]))))
theorem avs(f:Int)(ls:List Let)(hl:ls.length<=1000000)(aI:aB ls≠[])(hp:∀v l,ls[v]?=some l->(l.kind==2)=false->v∈aB ls):
  aK S 34 [dR f ls] (.one (.own 43 1 ((gI (gH ls (aB ls)) (2*ls.length+2*(aB ls).length)).map fun w=>[Bs w]))):=by
 have pa:=ajI f ls hl;have jD:∀x∈aB ls,x<ls.length:=fun x h=>OX h;have fi:(aB ls).length<=ls.length:=wC ls ls.length;unfold OY at pa;rw[ay aI] at pa;generalize aB ls=ax at aI hp pa jD fi;have m1:=ue (a:=ls.length) aa;have m2:=ue (a:=ax.length) aa;have m3:=wrap_add (a:=2*ls.length) (b:=2*ax.length) aa;have sK:(nP ax).length=ax.length:=af;have kx:2*ls.length+2*ax.length<=140737488355328:=aa;have vC:List.replicate (2*ls.length+2*ax.length) [PV.bool false]=bP (List.replicate (2*ls.length+2*ax.length) false):=af
 refine bh c34 ?_;have anS:∀(aj:aA),land aj [] 2176128064 ((RV.one (.own 3 1 (nP ax))).fP (S.lone 2176128064))=some (.one (.hsl 2176128064 ((aj 2176128064).1+1) 1 0 ax.length),[(2176128064,((aj 2176128064).1+1,some (.arr 3 1 (nP ax))))]):=by intro aj;have eG:S.lone 2176128064=false:=ah;rw[eG];simp only[RV.fP,land,true_or,if_true,ju,gK,im,iY,df,qY,mq,cD,jP]
 simp only[go_sem,i34,s58,cV pa (anS _),m1,m2,m3,kx,vC];generalize hN:2*ls.length+2*ax.length=N at kx;refine cU (fun k ak aj=>ak 1=.one (.aY 2176000000 1 0)/\aj 2176000000=(1,some (.var (tz f ls)))/\ak 4=.one (.hsl 2176128064 1 1 0 ax.length)/\aj 2176128064=(1,some (.arr 3 1 (nP ax)))/\
   ak 5=.one (.hsl 2176192512 1 1 0 N)/\aj 2176192512=(1,some (.arr 4 1 (bP (dG (gH ls ax) N k).2)))/\ak 6=vi k/\outW 2176896192 (dG (gH ls ax) N k).1 (ak 3) aj) 0 N (bl _) ?_ ?_
 .simp only[go_sem];exact⟨rfl,rfl,.inl ⟨rfl,rfl⟩⟩
 rintro k ak aj hk ⟨h1,hB,h4,hA,h5,hS,h6,ho⟩
 have hlen:=Hr (gH ls ax) N k;have Ey:=Ot (gH ls ax) N k;by_cases au:k<N
 .have aL:((k:Int)<(N:Int)):=aa;have w1:=cA (n:=k) aa;have hs:=yH (gH ls ax) N k;generalize cX:dG (gH ls ax) N k=st at hlen hs ho hS Ey;obtain⟨out,sn⟩:=st;simp only at hlen ho hS Ey;obtain⟨b,hb⟩:=aM (ls:=sn) (k:=k) aa;have ki:=sa hb;unfold uX at hs;have vq:sn.getD k true=b:=by rw[di,hb];rfl
  simp only[vq] at hs;cases b with
  |true=>have hs:dG (gH ls ax) N (k+1)=(out,sn):=hs;simp only[go_sem,i34_l4,i34_r3,h1,hB,h4,hA,h5,hS,h6,au,aL,ki,w1,hs];exact ho
  |false=>
   have hs:dG (gH ls ax) N (k+1)=(out++[(eV (gH ls ax) (N+1) k sn).1],(eV (gH ls ax) (N+1) k sn).2):=by rw[hs,hlen];rfl
   have hul:=KP sn;simp only[go_sem,i34_l4,h5,hS,h6,au,aL,ki];refine avj (f:=f) hl aa jD hp (N+1) k sn [] _ _ ?_ ?_ ?_ ?_ ?_ ?_ ?_ ?_ aa aa aa (by simp;omega) ?_
   .simp only[go_sem,h1]
   .simp only[go_sem,hB]
   .simp only[go_sem,h4]
   .simp only[go_sem,hA]
   .simp only[go_sem,h5,hlen]
   .simp only[go_sem,hS]
   .exact .inl ⟨rfl,by simp only[go_sem]⟩
   .simp only[go_sem]
   intro aD ao q1 q3 q4 q5 q6 b1 b2 b3 b4 b5 b6;simp only[go_sem,h1,h4,h5,h6] at q1 q3 q4 q5 q6;simp only[go_sem,hB,hA] at b1 b2 b3 b4;have Qk:(eV (gH ls ax) (N+1) k sn).1≠[]:=by unfold eV;rw[vq];simp
   rw[fY] at b6;rcases b6 with ⟨e,_⟩|⟨_,g,h7,hC⟩
   .exact(Qk e).elim
   generalize eV (gH ls ax) (N+1) k sn=wf at hs Qk b5 h7 hC;obtain⟨w,ib⟩:=wf;simp only at hs Qk b5 h7 hC;have tN:List.take w.length (nP w)=nP w:=fR af;rcases ho with ⟨rfl,h3⟩|⟨ho,go,h3,hO⟩
   .rw[h3] at q3;simp only[go_sem,i34_r2,i34_r3,q1,q3,q4,q5,q6,b1,b2,b5,h7,hC,tN,w1,hs,au,xK,fL,gV];exact .inr ⟨af,_,rfl,by simp[aN]⟩
   rw[h3] at q3;have ED:List.take out.length (out.map fun w=>[Bs w])=out.map fun w=>[Bs w]:=fR af;have jE:(out.length+1)*24<=140737488355328:=aa;simp only[go_sem,i34_r2,i34_r3,q1,q3,q4,q5,q6,b1,b2,b3,b5,h7,hC,hO,tN,ED,jE,w1,hs,au,xK,cM,fL,gV];exact .inr ⟨af,go+1,af,by simp[aN]⟩
 have:k=N:=aa;subst this;have he:gI (gH ls ax) k=(dG (gH ls ax) k k).1:=rfl;rw[<- he] at ho;rcases ho with ⟨e,h3⟩|⟨ho,g,h3,hC⟩
 .exact(avo (gH ls ax) k k (by have:=jf.2 aI;omega) (by have:=jf.2 aI;omega) e).elim
 simp only[go_sem,i34_l4,i34_r5,h3,h5,h6,dT];exact Km hC af
abbrev W2(l:Let):List C:=[.p (.int .i64 l.kind),.p (.int .i64 l.gate),.p (.int .i64 l.aE),.p (.int .i64 l.id),.p (.int .i64 l.sign),.p (.bool l.over)]
def iM(l o:Let):Bool:=(o.kind==l.kind&&o.gate==l.gate)&&o.aE==l.aE
def iz(l o:Let):Bool:=((o.kind==l.kind&&o.id==l.id)&&o.sign==l.sign)&& !(o.over==l.over)
def vL(f:Int)(ls:List Let)(l:Let):Bool:= !(((((((l.id !=0||l.sign !=0)||l.over)||decide (l.gate<0))||decide (f<l.gate))||decide (l.aE<1))||decide ((aw (nY l.gate) ls:Int)<l.aE))||(((aw (iM l) ls:Nat):Int)!=1))
def lO(ls:List Let)(l:Let):Bool:= !((((((l.gate !=0||l.aE !=0)||(l.sign !=1&&l.sign != -1))||decide (l.id<1))||decide (((aw Let.aC ls/2:Nat):Int)<l.id))||(((aw (iz l) ls:Nat):Int)!=1))||(((aw (lf l.id) ls:Nat):Int)!=2))
def eJ(f:Int)(ls:List Let)(l:Let):Bool:=if l.kind==1 then vL f ls l else if l.kind==2 then lO ls l else false
theorem apI{f:Int}{ls:List Let}{l:Let}{g i:Nat}{ak:Env}{aj:aA}{Q:dD}(hl:ls.length<=1000000)(h1:ak 1=.one (.aY 2112000000 1 0))(hB:aj 2112000000=(1,some (.var (tz f ls))))(h3:ak 3=vi i)(h4:ak 4=.one (.aY 2112256320 g 0))(hL:aj 2112256320=(g,some (.var (W2 l))))
  (h5:ak 5=vi 0) (h6:ak 6=vi 0) (h7:ak 7=vi 0)
  (hq:∀aD ao,aD 1=ak 1->aD 3=ak 3->aD 4=ak 4->ao 2112000000=aj 2112000000->ao 2112256320=aj 2112256320->aD 5=vi (aw (iM l) ls)->aD 6=vi (aw (iz l) ls)->Q .normal aD ao):
  W S .all (.loop i33_l1) (lU 2 Q) ak aj:=by
 refine cU (fun k aD ao=>aD 1=.one (.aY 2112000000 1 0)/\ao 2112000000=(1,some (.var (tz f ls)))/\aD 3=vi i/\aD 4=.one (.aY 2112256320 g 0)/\ao 2112256320=(g,some (.var (W2 l)))/\
   aD 5=vi (aw (iM l) (ls.take k))/\aD 6=vi (aw (iz l) (ls.take k))/\aD 7=vi k) 0 ls.length (bl _) ?_ ?_
 .exact⟨h1,hB,h3,h4,hL,h5,h6,h7⟩
 rintro k aD ao hk ⟨g1,gB,g3,g4,gL,g5,g6,g7⟩
 by_cases au:k<ls.length
 .obtain⟨o,ho⟩:=aM au;have hi:=ia ho;have aL:((k:Int)<(ls.length:Int)):=aa;have b5:=y7 (iM l) ls k;have b6:=y7 (iz l) ls k;have w1:=cA (n:=k) aa;have w5:=cA (n:=aw (iM l) (ls.take k)) aa;have w6:=cA (n:=aw (iz l) (ls.take k)) aa;cases e0:(o.kind==l.kind) with
  |true=>
   cases e1:(o.gate==l.gate) with
   |true=>
    cases e2:(o.aE==l.aE) with
    |true=>
     cases e3:(o.id==l.id) with
     |true=>
      cases e4:(o.sign==l.sign) with
      |true=>
       cases e5:(o.over==l.over) with
       |true=>have c5:=sk (p:=iM l) ho (by simp only[iM,e0,e1,e2];rfl);have c6:=jA (p:=iz l) ho (by simp only[iz,e0,e3,e4,e5];rfl);simp only[go_sem,i33_l1,g1,gB,g3,g4,gL,g5,g6,g7,hi,Let.ps,aL,w1,w5,e0,e1,e2,e3,e4,e5,c5,c6];first|exact au|exact⟨au,rfl⟩|exact⟨au,rfl,rfl⟩
       |false=>have c5:=sk (p:=iM l) ho (by simp only[iM,e0,e1,e2];rfl);have c6:=sk (p:=iz l) ho (by simp only[iz,e0,e3,e4,e5];rfl);simp only[go_sem,i33_l1,g1,gB,g3,g4,gL,g5,g6,g7,hi,Let.ps,aL,w1,w5,w6,e0,e1,e2,e3,e4,e5,c5,c6];first|exact au|exact⟨au,rfl⟩|exact⟨au,rfl,rfl⟩
      |false=>have c5:=sk (p:=iM l) ho (by simp only[iM,e0,e1,e2];rfl);have c6:=jA (p:=iz l) ho (by simp only[iz,e0,e3,e4];rfl);simp only[go_sem,i33_l1,g1,gB,g3,g4,gL,g5,g6,g7,hi,Let.ps,aL,w1,w5,e0,e1,e2,e3,e4,c5,c6];first|exact au|exact⟨au,rfl⟩|exact⟨au,rfl,rfl⟩
     |false=>have c5:=sk (p:=iM l) ho (by simp only[iM,e0,e1,e2];rfl);have c6:=jA (p:=iz l) ho (by simp only[iz,e0,e3];rfl);simp only[go_sem,i33_l1,g1,gB,g3,g4,gL,g5,g6,g7,hi,Let.ps,aL,w1,w5,e0,e1,e2,e3,c5,c6];first|exact au|exact⟨au,rfl⟩|exact⟨au,rfl,rfl⟩
    |false=>
     cases e3:(o.id==l.id) with
     |true=>
      cases e4:(o.sign==l.sign) with
      |true=>
       cases e5:(o.over==l.over) with
       |true=>have c5:=jA (p:=iM l) ho (by simp only[iM,e0,e1,e2];rfl);have c6:=jA (p:=iz l) ho (by simp only[iz,e0,e3,e4,e5];rfl);simp only[go_sem,i33_l1,g1,gB,g3,g4,gL,g5,g6,g7,hi,Let.ps,aL,w1,e0,e1,e2,e3,e4,e5,c5,c6];first|exact au|exact⟨au,rfl⟩|exact⟨au,rfl,rfl⟩
       |false=>have c5:=jA (p:=iM l) ho (by simp only[iM,e0,e1,e2];rfl);have c6:=sk (p:=iz l) ho (by simp only[iz,e0,e3,e4,e5];rfl);simp only[go_sem,i33_l1,g1,gB,g3,g4,gL,g5,g6,g7,hi,Let.ps,aL,w1,w6,e0,e1,e2,e3,e4,e5,c5,c6];first|exact au|exact⟨au,rfl⟩|exact⟨au,rfl,rfl⟩
      |false=>have c5:=jA (p:=iM l) ho (by simp only[iM,e0,e1,e2];rfl);have c6:=jA (p:=iz l) ho (by simp only[iz,e0,e3,e4];rfl);simp only[go_sem,i33_l1,g1,gB,g3,g4,gL,g5,g6,g7,hi,Let.ps,aL,w1,e0,e1,e2,e3,e4,c5,c6];first|exact au|exact⟨au,rfl⟩|exact⟨au,rfl,rfl⟩
     |false=>have c5:=jA (p:=iM l) ho (by simp only[iM,e0,e1,e2];rfl);have c6:=jA (p:=iz l) ho (by simp only[iz,e0,e3];rfl);simp only[go_sem,i33_l1,g1,gB,g3,g4,gL,g5,g6,g7,hi,Let.ps,aL,w1,e0,e1,e2,e3,c5,c6];first|exact au|exact⟨au,rfl⟩|exact⟨au,rfl,rfl⟩
   |false=>
    cases e3:(o.id==l.id) with
    |true=>
     cases e4:(o.sign==l.sign) with
     |true=>
      cases e5:(o.over==l.over) with
      |true=>have c5:=jA (p:=iM l) ho (by simp only[iM,e0,e1];rfl);have c6:=jA (p:=iz l) ho (by simp only[iz,e0,e3,e4,e5];rfl);simp only[go_sem,i33_l1,g1,gB,g3,g4,gL,g5,g6,g7,hi,Let.ps,aL,w1,e0,e1,e3,e4,e5,c5,c6];first|exact au|exact⟨au,rfl⟩|exact⟨au,rfl,rfl⟩
      |false=>have c5:=jA (p:=iM l) ho (by simp only[iM,e0,e1];rfl);have c6:=sk (p:=iz l) ho (by simp only[iz,e0,e3,e4,e5];rfl);simp only[go_sem,i33_l1,g1,gB,g3,g4,gL,g5,g6,g7,hi,Let.ps,aL,w1,w6,e0,e1,e3,e4,e5,c5,c6];first|exact au|exact⟨au,rfl⟩|exact⟨au,rfl,rfl⟩
     |false=>have c5:=jA (p:=iM l) ho (by simp only[iM,e0,e1];rfl);have c6:=jA (p:=iz l) ho (by simp only[iz,e0,e3,e4];rfl);simp only[go_sem,i33_l1,g1,gB,g3,g4,gL,g5,g6,g7,hi,Let.ps,aL,w1,e0,e1,e3,e4,c5,c6];first|exact au|exact⟨au,rfl⟩|exact⟨au,rfl,rfl⟩
    |false=>have c5:=jA (p:=iM l) ho (by simp only[iM,e0,e1];rfl);have c6:=jA (p:=iz l) ho (by simp only[iz,e0,e3];rfl);simp only[go_sem,i33_l1,g1,gB,g3,g4,gL,g5,g6,g7,hi,Let.ps,aL,w1,e0,e1,e3,c5,c6];first|exact au|exact⟨au,rfl⟩|exact⟨au,rfl,rfl⟩
  |false=>have c5:=jA (p:=iM l) ho (by simp only[iM,e0];rfl);have c6:=jA (p:=iz l) ho (by simp only[iz,e0];rfl);simp only[go_sem,i33_l1,g1,gB,g3,g4,gL,g5,g6,g7,hi,Let.ps,aL,w1,e0,c5,c6];first|exact au|exact⟨au,rfl⟩|exact⟨au,rfl,rfl⟩
 have:k=ls.length:=aa;subst this;rw[jQ] at g5 g6;simp only[go_sem,i33_l1,g1,gB,g7,dT];refine hq _ _ ?_ ?_ ?_ ?_ ?_ ?_ ?_;all_goals simp only[go_sem,g1,gB,g3,g4,gL,g5,g6,h1,hB,h3,h4,hL]
theorem apJ{f:Int}{ls:List Let}{l:Let}{g i:Nat}{ak:Env}{aj:aA}{Q:dD}(hl:ls.length<=1000000)(h1:ak 1=.one (.aY 2112000000 1 0))(hB:aj 2112000000=(1,some (.var (tz f ls))))(h3:ak 3=vi i)(h4:ak 4=.one (.aY 2112256320 g 0))(hL:aj 2112256320=(g,some (.var (W2 l))))
  (h5:ak 5=vi (aw (iM l) ls)) (h6:ak 6=vi (aw (iz l) ls))
  (hq:eJ f ls l=true->∀aD,aD 1=ak 1->aD 3=ak 3->Q .normal aD aj) (hr:eJ f ls l=false->∀aD,aD 2=.one (.p (.bool false))->Q .ret aD aj):
  W S .all i33_r2 Q ak aj:=by
 have pin:=in_r f ls hl l.gate;have pvi:=Yc f ls hl;have pti:=auO f ls hl l.id;have hcv:=tx Let.aC ls;have wv:=wrap_small (n:=aw Let.aC ls/2) aa;cases k1:(l.kind==1) with
 |true=>
  cases a1:(l.id !=0) with
  |true=>
   have aq:eJ f ls l=false:=by simp only[eJ,k1,vL,a1];rfl
   simp only[go_sem,i33_r2,h4,hL,k1,a1];refine⟨ah,hr aq _ ?_⟩;simp only[go_sem]
  |false=>
   cases a2:(l.sign !=0) with
   |true=>
    have aq:eJ f ls l=false:=by simp only[eJ,k1,vL,a1,a2];rfl
    simp only[go_sem,i33_r2,h4,hL,k1,a1,a2];refine⟨ah,hr aq _ ?_⟩;simp only[go_sem]
   |false=>
    cases a3:(l.over) with
    |true=>
     have aq:eJ f ls l=false:=by simp only[eJ,k1,vL,a1,a2,a3];rfl
     simp only[go_sem,i33_r2,h4,hL,k1,a1,a2,a3];refine⟨ah,hr aq _ ?_⟩;simp only[go_sem]
    |false=>
     cases a4:(decide (l.gate<0)) with
     |true=>
      have yS:(l.gate<0):=nG a4;have aq:eJ f ls l=false:=by simp only[eJ,k1,vL,a1,a2,a3,a4];rfl
      simp only[go_sem,i33_r2,h4,hL,k1,a1,a2,a3,yS];refine⟨ah,hr aq _ ?_⟩;simp only[go_sem]
     |false=>
      cases a5:(decide (f<l.gate)) with
      |true=>
       have yS:¬(l.gate<0):=fS a4;have kD:(f<l.gate):=nG a5;have aq:eJ f ls l=false:=by simp only[eJ,k1,vL,a1,a2,a3,a4,a5];rfl
       simp only[go_sem,i33_r2,h1,hB,h4,hL,k1,a1,a2,a3,yS,kD];refine⟨ah,hr aq _ ?_⟩;simp only[go_sem]
      |false=>
       cases a6:(decide (l.aE<1)) with
       |true=>
        have yS:¬(l.gate<0):=fS a4;have kD:¬(f<l.gate):=fS a5;have mX:(l.aE<1):=nG a6;have aq:eJ f ls l=false:=by simp only[eJ,k1,vL,a1,a2,a3,a4,a5,a6];rfl
        simp only[go_sem,i33_r2,h1,hB,h4,hL,k1,a1,a2,a3,yS,kD,mX];refine⟨ah,hr aq _ ?_⟩;simp only[go_sem]
       |false=>
        cases a7:(decide ((aw (nY l.gate) ls:Int)<l.aE)) with
        |true=>
         have yS:¬(l.gate<0):=fS a4;have kD:¬(f<l.gate):=fS a5;have mX:¬(l.aE<1):=fS a6;have Lk:((aw (nY l.gate) ls:Int)<l.aE):=nG a7;have aq:eJ f ls l=false:=by simp only[eJ,k1,vL,a1,a2,a3,a4,a5,a6,a7];rfl
         simp only[go_sem,i33_r2,h1,hB,h4,hL,s56,gJ pin,k1,a1,a2,a3,yS,kD,mX,Lk];refine⟨ah,hr aq _ ?_⟩;simp only[go_sem]
        |false=>
         cases a8:(((aw (iM l) ls:Nat):Int)!=1) with
         |true=>
          have yS:¬(l.gate<0):=fS a4;have kD:¬(f<l.gate):=fS a5;have mX:¬(l.aE<1):=fS a6;have Lk:¬((aw (nY l.gate) ls:Int)<l.aE):=fS a7;have aq:eJ f ls l=false:=by simp only[eJ,k1,vL,a1,a2,a3,a4,a5,a6,a7,a8];rfl
          simp only[go_sem,i33_r2,h1,hB,h4,hL,h5,s56,gJ pin,k1,a1,a2,a3,yS,kD,mX,Lk,a8];refine⟨ah,hr aq _ ?_⟩;simp only[go_sem]
         |false=>
          have yS:¬(l.gate<0):=fS a4;have kD:¬(f<l.gate):=fS a5;have mX:¬(l.aE<1):=fS a6;have Lk:¬((aw (nY l.gate) ls:Int)<l.aE):=fS a7;have aq:eJ f ls l=true:=by simp only[eJ,k1,vL,a1,a2,a3,a4,a5,a6,a7,a8];rfl
          simp only[go_sem,i33_r2,h1,hB,h4,hL,h5,s56,gJ pin,k1,a1,a2,a3,yS,kD,mX,Lk,a8];refine⟨ah,hq aq _ ?_ ?_⟩;all_goals simp only[go_sem]
 |false=>
  cases k2:(l.kind==2) with
  |true=>
   cases a1:(l.gate !=0) with
   |true=>
    have aq:eJ f ls l=false:=by simp only[eJ,k1,k2,lO,a1];rfl
    simp only[go_sem,i33_r2,h4,hL,k1,k2,a1];refine⟨ah,hr aq _ ?_⟩;simp only[go_sem]
   |false=>
    cases a2:(l.aE !=0) with
    |true=>
     have aq:eJ f ls l=false:=by simp only[eJ,k1,k2,lO,a1,a2];rfl
     simp only[go_sem,i33_r2,h4,hL,k1,k2,a1,a2];refine⟨ah,hr aq _ ?_⟩;simp only[go_sem]
    |false=>
     cases a3:(l.sign !=1) with
     |true=>
      cases a4:(l.sign != -1) with
      |true=>
       have aq:eJ f ls l=false:=by simp only[eJ,k1,k2,lO,a1,a2,a3,a4];rfl
       simp only[go_sem,i33_r2,h4,hL,k1,k2,a1,a2,a3,a4];refine⟨ah,hr aq _ ?_⟩;simp only[go_sem]
      |false=>
       cases a5:(decide (l.id<1)) with
       |true=>
        have kD:(l.id<1):=nG a5;have aq:eJ f ls l=false:=by simp only[eJ,k1,k2,lO,a1,a2,a3,a4,a5];rfl
        simp only[go_sem,i33_r2,h4,hL,k1,k2,a1,a2,a3,a4,kD];refine⟨ah,hr aq _ ?_⟩;simp only[go_sem]
       |false=>
        cases a6:(decide (((aw Let.aC ls/2:Nat):Int)<l.id)) with
        |true=>
         have kD:¬(l.id<1):=fS a5;have mX:(((aw Let.aC ls/2:Nat):Int)<l.id):=nG a6;have aq:eJ f ls l=false:=by simp only[eJ,k1,k2,lO,a1,a2,a3,a4,a5,a6];rfl
         simp only[go_sem,i33_r2,h1,hB,h4,hL,s14,gJ pvi,fv,eo,wv,k1,k2,a1,a2,a3,a4,kD,mX];refine⟨ah,hr aq _ ?_⟩;simp only[go_sem]
        |false=>
         cases a7:(((aw (iz l) ls:Nat):Int)!=1) with
         |true=>
          have kD:¬(l.id<1):=fS a5;have mX:¬(((aw Let.aC ls/2:Nat):Int)<l.id):=fS a6;have aq:eJ f ls l=false:=by simp only[eJ,k1,k2,lO,a1,a2,a3,a4,a5,a6,a7];rfl
          simp only[go_sem,i33_r2,h1,hB,h4,hL,h6,s14,gJ pvi,fv,eo,wv,k1,k2,a1,a2,a3,a4,kD,mX,a7];refine⟨ah,hr aq _ ?_⟩;simp only[go_sem]
         |false=>
          cases a8:(((aw (lf l.id) ls:Nat):Int)!=2) with
          |true=>
           have kD:¬(l.id<1):=fS a5;have mX:¬(((aw Let.aC ls/2:Nat):Int)<l.id):=fS a6;have aq:eJ f ls l=false:=by simp only[eJ,k1,k2,lO,a1,a2,a3,a4,a5,a6,a7,a8];rfl
           simp only[go_sem,i33_r2,h1,hB,h4,hL,h6,s14,s57,gJ pvi,gJ pti,fv,eo,wv,k1,k2,a1,a2,a3,a4,kD,mX,a7,a8];refine⟨ah,hr aq _ ?_⟩;simp only[go_sem]
          |false=>
           have kD:¬(l.id<1):=fS a5;have mX:¬(((aw Let.aC ls/2:Nat):Int)<l.id):=fS a6;have aq:eJ f ls l=true:=by simp only[eJ,k1,k2,lO,a1,a2,a3,a4,a5,a6,a7,a8];rfl
           simp only[go_sem,i33_r2,h1,hB,h4,hL,h6,s14,s57,gJ pvi,gJ pti,fv,eo,wv,k1,k2,a1,a2,a3,a4,kD,mX,a7,a8];refine⟨ah,hq aq _ ?_ ?_⟩;all_goals simp only[go_sem]
     |false=>
      cases a5:(decide (l.id<1)) with
      |true=>
       have kD:(l.id<1):=nG a5;have aq:eJ f ls l=false:=by simp only[eJ,k1,k2,lO,a1,a2,a3,a5];rfl
       simp only[go_sem,i33_r2,h4,hL,k1,k2,a1,a2,a3,kD];refine⟨ah,hr aq _ ?_⟩;simp only[go_sem]
      |false=>
       cases a6:(decide (((aw Let.aC ls/2:Nat):Int)<l.id)) with
       |true=>
        have kD:¬(l.id<1):=fS a5;have mX:(((aw Let.aC ls/2:Nat):Int)<l.id):=nG a6;have aq:eJ f ls l=false:=by simp only[eJ,k1,k2,lO,a1,a2,a3,a5,a6];rfl
        simp only[go_sem,i33_r2,h1,hB,h4,hL,s14,gJ pvi,fv,eo,wv,k1,k2,a1,a2,a3,kD,mX];refine⟨ah,hr aq _ ?_⟩;simp only[go_sem]
       |false=>
        cases a7:(((aw (iz l) ls:Nat):Int)!=1) with
        |true=>
         have kD:¬(l.id<1):=fS a5;have mX:¬(((aw Let.aC ls/2:Nat):Int)<l.id):=fS a6;have aq:eJ f ls l=false:=by simp only[eJ,k1,k2,lO,a1,a2,a3,a5,a6,a7];rfl
         simp only[go_sem,i33_r2,h1,hB,h4,hL,h6,s14,gJ pvi,fv,eo,wv,k1,k2,a1,a2,a3,kD,mX,a7];refine⟨ah,hr aq _ ?_⟩;simp only[go_sem]
        |false=>
         cases a8:(((aw (lf l.id) ls:Nat):Int)!=2) with
         |true=>
          have kD:¬(l.id<1):=fS a5;have mX:¬(((aw Let.aC ls/2:Nat):Int)<l.id):=fS a6;have aq:eJ f ls l=false:=by simp only[eJ,k1,k2,lO,a1,a2,a3,a5,a6,a7,a8];rfl
          simp only[go_sem,i33_r2,h1,hB,h4,hL,h6,s14,s57,gJ pvi,gJ pti,fv,eo,wv,k1,k2,a1,a2,a3,kD,mX,a7,a8];refine⟨ah,hr aq _ ?_⟩;simp only[go_sem]
         |false=>
          have kD:¬(l.id<1):=fS a5;have mX:¬(((aw Let.aC ls/2:Nat):Int)<l.id):=fS a6;have aq:eJ f ls l=true:=by simp only[eJ,k1,k2,lO,a1,a2,a3,a5,a6,a7,a8];rfl
          simp only[go_sem,i33_r2,h1,hB,h4,hL,h6,s14,s57,gJ pvi,gJ pti,fv,eo,wv,k1,k2,a1,a2,a3,kD,mX,a7,a8];refine⟨ah,hq aq _ ?_ ?_⟩;all_goals simp only[go_sem]
  |false=>
   have aq:eJ f ls l=false:=by simp only[eJ,k1,k2];rfl
   simp only[go_sem,i33_r2,h4,hL,k1,k2];refine hr aq _ ?_;simp only[go_sem]
def wZ(f:Int)(ls:List Let):Bool:=ls.all (eJ f ls)
theorem apK(f:Int)(ls:List Let)(hl:ls.length<=1000000):aK S 33 [dR f ls] (rb (wZ f ls)):=by
 refine bh c33 ?_;simp only[go_sem,i33];refine cU (fun k ak aj=>ak 1=.one (.aY 2112000000 1 0)/\aj 2112000000=(1,some (.var (tz f ls)))/\ak 3=vi k/\ ∀j l,j<k->ls[j]?=some l->eJ f ls l=true) 0 ls.length (bl _) ?_ ?_
 .simp only[go_sem];exact⟨rfl,fun j l h=>absurd h (nE j)⟩
 rintro k ak aj hk ⟨h1,hB,h3,aq⟩
 by_cases au:k<ls.length
 .obtain⟨l,ho⟩:=aM au;have hi:=ia ho;have aL:((k:Int)<(ls.length:Int)):=aa;have w1:=cA (n:=k) aa;simp only[go_sem,i33_l4,h1,hB,h3,hi,Let.ps,aL];refine apI (f:=f) (l:=l) (g:=(aj 2112256320).1+1) (i:=k) hl ?_ ?_ ?_ ?_ ?_ ?_ ?_ ?_ ?_
  .simp only[go_sem,h1]
  .simp only[go_sem,hB]
  .simp only[go_sem,h3]
  .simp only[go_sem]
  .simp only[go_sem]
  .simp only[go_sem]
  .simp only[go_sem]
  .simp only[go_sem]
  intro aD ao q1 q3 q4 b1 b2 q5 q6;simp only[go_sem,h1,h3] at q1 q3 q4;simp only[go_sem,hB] at b1 b2;simp only[go_sem];refine apJ (f:=f) (l:=l) (i:=k) hl q1 b1 q3 q4 b2 q5 q6 ?_ ?_
  .intro MS cZ e1 e3;rw[q1] at e1;rw[q3] at e3;simp only[go_sem,i33_r3,e1,b1,e3,w1];refine⟨au,fun j l' hj vt=>?_⟩;rcases mU.1 hj with hj|rfl
   .exact aq j l' hj vt
   rw[ho] at vt;cases vt;exact MS
  intro VQ cZ e2;have hf:wZ f ls=false:=by unfold wZ;rw[Ym];exact⟨l,aU ho,by simp[VQ]⟩
  simp only[go_sem,e2,hf]
 have:k=ls.length:=aa;subst this;have hf:wZ f ls=true:=by unfold wZ;rw[jd];intro x hx;obtain⟨j,hj,rfl⟩:=List.getElem_of_mem hx;exact aq j _ hj af
 simp only[go_sem,i33_l4,i33_r5,h1,hB,h3,dT,hf]
theorem aoN{ls:List Let}{o:List Nat}{i x:Nat}:x∈zW ls o i↔x∈o\/x=i:=by
 unfold zW;generalize (o.takeWhile (Bk ls i)).length=K;constructor
 .intro h;rcases eD.1 h with h|h
  .exact .inl (xv h)
  rcases cM.1 h with h|h
  .exact .inr h
  exact .inl (wa h)
 rintro (h|rfl)
 .rw[<- nC K o] at h;rcases eD.1 h with h|h
  .exact eD.2 (.inl h)
  exact eD.2 (.inr (cM.2 (.inr h)))
 simp
theorem Zy{ls:List Let}:∀ {k x:Nat},k<=ls.length->(x∈nK ls k↔x<k/\ ∃l,ls[x]?=some l/\l.aG=true):=by
 intro k
 induction k with
 |zero=>intro x _;simp[nK]
 |succ k ih=>
  intro x hk;rw[Ih];obtain⟨l,hl⟩:=aM (ls:=ls) (k:=k) aa;have ih:=ih (x:=x) aa;unfold Ay;rw[hl];simp only;by_cases hp:l.aG=true
  .rw[aF hp,aoN,ih];constructor
   .rintro (⟨h1,h2⟩|rfl)
    .exact⟨aa,h2⟩
    exact⟨aa,l,hl,hp⟩
   rintro ⟨h1,h2⟩
   rcases mU.1 h1 with h|rfl
   .exact .inl ⟨h,h2⟩
   exact .inr rfl
  rw[ay hp,ih];constructor
  .rintro ⟨h1,h2⟩;exact⟨aa,h2⟩
  rintro ⟨h1,m,hm,sM⟩
  rcases mU.1 h1 with h|rfl
  .exact⟨h,m,hm,sM⟩
  rw[hl] at hm;cases hm;exact(hp sM).elim
theorem tu{ls:List Let}{x:Nat}:x∈aB ls↔ ∃l,ls[x]?=some l/\l.aG=true:=by
 have:=Zy (ls:=ls) (k:=ls.length) (x:=x) (bJ _);have e:aB ls=nK ls ls.length:=rfl;rw[e,this];constructor
 .rintro ⟨_,h⟩;exact h
 rintro ⟨l,h,h2⟩;exact⟨(aW.1 h).1,l,h,h2⟩
theorem aeT{ls:List Let}(h:wZ f ls=true){v:Nat}{l:Let}(hv:ls[v]?=some l):l.aG=true\/l.aC=true:=by
 have:=(jd.1 h) l (aU hv);unfold eJ at this;unfold Let.aG Let.aC;cases h1:(l.kind==1) with
 |true=>exact .inl rfl
 |false=>
  cases h2:(l.kind==2) with
  |true=>exact .inr rfl
  |false=>rw[h1,h2] at this;simp at this
def lh(ls:List Let):Nat:=(gI (gH ls (aB ls)) (2*ls.length+2*(aB ls).length)).length
def lz(f:Int)(ls:List Let):Bool:=(match ls[0]? with|some l=>l.kind==1|none=>true)&&(aw Let.aG ls%2==0)&&wZ f ls&&(lh ls==aw Let.aG ls+aw Let.aC ls/2+2)
def cQ(f:Int)(ls:List Let):Int:=if 400<ls.length\/200<aw Let.aC ls then 7 else if f<0\/40<f then 2 else if ls=[] then 0 else if lz f ls then 0 else 3
theorem akv(f:Int)(ls:List Let)(hl:ls.length<=1000000):aK S 13 [dR f ls] (ri (cQ f ls)):=by
 have pvi:=Yc f ls hl;have ppa:=aq5 f ls hl;have ple:=apK f ls hl;have pcr:=To f ls hl;have hci:=tx Let.aC ls;have gD:=tx Let.aG ls;refine bh c13 ?_;unfold cQ;by_cases h1:400<ls.length
 .have jB:(400:Int)<(ls.length:Int):=aa;simp only[go_sem,i13,h1,jB]
 have jB:¬(400:Int)<(ls.length:Int):=aa;by_cases h2:200<aw Let.aC ls
 .have iV:(200:Int)<(aw Let.aC ls:Int):=aa;simp only[go_sem,i13,h1,jB,h2,iV,s14,dY pvi]
 have iV:¬(200:Int)<(aw Let.aC ls:Int):=aa;by_cases h3:f<0
 .simp only[go_sem,i13,h1,jB,h2,iV,h3,s14,dY pvi]
 by_cases h4:40<f
 .simp only[go_sem,i13,h1,jB,h2,iV,h3,h4,s14,dY pvi]
 have aoh:¬(400<ls.length\/200<aw Let.aC ls):=aa;have aoi:¬(f<0\/40<f):=aa;rw[ay aoh,ay aoi];by_cases he:ls=[]
 .subst he;have hz:(((0:Nat):Int)==0)=true:=ae;have hz3:¬((400:Int)<((0:Nat):Int)):=ae;have asc:aK S 14 [.agg [.p (.int .i64 f),.p (.sl [])]] (ri (aw Let.aC [])):=pvi;simp only[go_sem,i13,hz3,iV,h3,h4,s14,dY asc,hz]
 have hlen:0<ls.length:=jf.2 he;obtain⟨l0,h0⟩:=aM hlen;have zJ:=ia h0;have Gu:(((ls.length:Nat):Int)==0)=false:=by simp;omega
 rw[ay he];generalize hr:(if lz f ls=true then (0:Int) else 3)=r;cases c1:(l0.kind==1) with
 |false=>
  have c1':(l0.kind !=1)=true:=by simp[bne,c1]
  have hv:lz f ls=false:=by simp only[lz,h0,c1];rfl
  rw[hv] at hr;have hr:(3:Int)=r:=hr;subst hr;simp only[go_sem,i13,jB,iV,h3,h4,s14,dY pvi,Gu,s32,dY ppa,zJ,Let.ps,c1'];exact aH
 |true=>
  have c1':(l0.kind !=1)=false:=by simp[bne,c1]
  cases c2:(aw Let.aG ls%2==0) with
  |false=>
   have c2':(((aw Let.aG ls%2:Nat):Int)!=0)=true:=by simp at c2 ⊢;omega
   have hv:lz f ls=false:=by simp only[lz,h0,c1,c2];rfl
   rw[hv] at hr;have hr:(3:Int)=r:=hr;subst hr;simp only[go_sem,i13,jB,iV,h3,h4,s14,dY pvi,Gu,s32,dY ppa,zJ,Let.ps,c1',jq,eo,c2'];exact aH
  |true=>
   have c2':(((aw Let.aG ls%2:Nat):Int)!=0)=false:=by simp at c2 ⊢;omega
   cases c3:wZ f ls with
   |false=>
    rw[c3] at ple;have hv:lz f ls=false:=by simp only[lz,h0,c1,c2,c3];rfl
    rw[hv] at hr;have hr:(3:Int)=r:=hr;subst hr;simp only[go_sem,i13,jB,iV,h3,h4,s14,dY pvi,Gu,s32,dY ppa,zJ,Let.ps,c1',jq,eo,c2',s33,mE ple];exact aH
   |true=>
    rw[c3] at ple;have aI:aB ls≠[]:=fun e=>by have:(0:Nat)∈aB ls:=tu.2 ⟨l0,h0,c1⟩;rw[e] at this;cases this
    have hp:∀v l,ls[v]?=some l->(l.kind==2)=false->v∈aB ls:=fun v l hv h2=>by
     rcases aeT c3 hv with h|h
     .exact tu.2 ⟨l,hv,h⟩
     unfold Let.aC at h;rw[h2] at h;cases h
    have pw:=avs f ls hl aI hp;have Jv:lh ls=(gI (gH ls (aB ls)) (2*ls.length+2*(aB ls).length)).length:=rfl;have jm:=Ot (gH ls (aB ls)) (2*ls.length+2*(aB ls).length) (2*ls.length+2*(aB ls).length);generalize hW:gI (gH ls (aB ls)) (2*ls.length+2*(aB ls).length)=ws at pw jm Jv;have a1:=wrap_add (a:=aw Let.aG ls) (b:=aw Let.aC ls/2) aa;have a2:IntKind.i64.wrap (((aw Let.aG ls+aw Let.aC ls/2:Nat):Int)+2)=((aw Let.aG ls+aw Let.aC ls/2+2:Nat):Int):=wrap_add (a:=aw Let.aG ls+aw Let.aC ls/2) (b:=2) aa;have eG:S.lone 832513152=false:=ah
    have iL:∀(aj:aA),land aj [] 832513152 ((RV.one (.own 43 1 (ws.map fun w=>[Bs w]))).fP (S.lone 832513152))=some (.one (.hsl 832513152 ((aj 832513152).1+1) 1 0 ws.length),[(832513152,((aj 832513152).1+1,some (.arr 43 1 (ws.map fun w=>[Bs w]))))]):=by intro aj;rw[eG];simp only[RV.fP,land,true_or,if_true,ju,gK,im,iY,df,qY,mq,cD,jP]
    cases c4:(ws.length==aw Let.aG ls+aw Let.aC ls/2+2) with
    |false=>
     have c4':(((ws.length:Nat):Int)!=((aw Let.aG ls+aw Let.aC ls/2+2:Nat):Int))=true:=by simp at c4 ⊢;omega
     have hv:lz f ls=false:=by simp only[lz,h0,c1,c2,c3,Jv,c4];rfl
     rw[hv] at hr;have hr:(3:Int)=r:=hr;subst hr;simp only[go_sem,i13,jB,iV,h3,h4,s14,dY pvi,Gu,s32,dY ppa,zJ,Let.ps,c1',jq,eo,c2',s33,mE ple,s34,FQ pw (iL _),s5,gJ pcr,a1,a2,c4'];exact aH
    |true=>
     have c4':(((ws.length:Nat):Int)!=((aw Let.aG ls+aw Let.aC ls/2+2:Nat):Int))=false:=by simp at c4 ⊢;omega
     have hv:lz f ls=true:=by simp only[lz,h0,c1,c2,c3,Jv,c4];rfl
     rw[hv] at hr;have hr:(0:Int)=r:=hr;subst hr;simp only[go_sem,i13,jB,iV,h3,h4,s14,dY pvi,Gu,s32,dY ppa,zJ,Let.ps,c1',jq,eo,c2',s33,mE ple,s34,FQ pw (iL _),s5,gJ pcr,a1,a2,c4'];exact aH
def dy(f:Int)(l:Let):Bool:=if l.kind==1 then (((decide (l.gate<0)||decide (f<l.gate))||l.id !=0)||l.sign !=0)||l.over else if l.kind==2 then (l.gate !=0||l.aE !=0)||(l.sign !=1&&l.sign != -1) else true
theorem ajO(f:Int)(l:Let)(x1 x2 x3 x4 x5 x6:PV):aK S 101 [JT l,.one (.p (.box [.box [.int .i64 f,x1,x2,x3,x4,x5,x6]]))] (rb (dy f l)):=by
 refine bh c101 ?_;cases k1:(l.kind==1) with
 |true=>
  cases a1:(decide (l.gate<0)) with
  |true=>
   have yR:(l.gate<0):=nG a1;have hb:dy f l=true:=by simp only[dy,k1,a1];rfl
   simp only[go_sem,i101,k1,yR,hb];exact aH
  |false=>
   cases a2:(decide (f<l.gate)) with
   |true=>
    have yR:¬(l.gate<0):=fS a1;have BW:(f<l.gate):=nG a2;have hb:dy f l=true:=by simp only[dy,k1,a1,a2];rfl
    simp only[go_sem,i101,k1,yR,BW,hb];exact aH
   |false=>
    cases a3:(l.id !=0) with
    |true=>
     have yR:¬(l.gate<0):=fS a1;have BW:¬(f<l.gate):=fS a2;have hb:dy f l=true:=by simp only[dy,k1,a1,a2,a3];rfl
     simp only[go_sem,i101,k1,yR,BW,a3,hb];exact aH
    |false=>
     cases a4:(l.sign !=0) with
     |true=>
      have yR:¬(l.gate<0):=fS a1;have BW:¬(f<l.gate):=fS a2;have hb:dy f l=true:=by simp only[dy,k1,a1,a2,a3,a4];rfl
      simp only[go_sem,i101,k1,yR,BW,a3,a4,hb];exact aH
     |false=>
      cases a5:(l.over) with
      |true=>
       have yR:¬(l.gate<0):=fS a1;have BW:¬(f<l.gate):=fS a2;have hb:dy f l=true:=by simp only[dy,k1,a1,a2,a3,a4,a5];rfl
       simp only[go_sem,i101,k1,yR,BW,a3,a4,a5,hb];exact aH
      |false=>
       have yR:¬(l.gate<0):=fS a1;have BW:¬(f<l.gate):=fS a2;have hb:dy f l=false:=by simp only[dy,k1,a1,a2,a3,a4,a5];rfl
       simp only[go_sem,i101,k1,yR,BW,a3,a4,a5,hb];exact aH
 |false=>
  cases k2:(l.kind==2) with
  |true=>
   cases a1:(l.gate !=0) with
   |true=>
    have hb:dy f l=true:=by simp only[dy,k1,k2,a1];rfl
    simp only[go_sem,i101,k1,k2,a1,hb]
   |false=>
    cases a2:(l.aE !=0) with
    |true=>
     have hb:dy f l=true:=by simp only[dy,k1,k2,a1,a2];rfl
     simp only[go_sem,i101,k1,k2,a1,a2,hb]
    |false=>
     cases a3:(l.sign !=1) with
     |true=>
      cases a4:(l.sign != -1) with
      |true=>
       have hb:dy f l=true:=by simp only[dy,k1,k2,a1,a2,a3,a4];rfl
       simp only[go_sem,i101,k1,k2,a1,a2,a3,a4,hb]
      |false=>
       have hb:dy f l=false:=by simp only[dy,k1,k2,a1,a2,a3,a4];rfl
       simp only[go_sem,i101,k1,k2,a1,a2,a3,a4,hb]
     |false=>
      have hb:dy f l=false:=by simp only[dy,k1,k2,a1,a2,a3];rfl
      simp only[go_sem,i101,k1,k2,a1,a2,a3,hb]
  |false=>
   have hb:dy f l=true:=by simp only[dy,k1,k2];rfl
   simp only[go_sem,i101,k1,k2,hb]
abbrev dfn(f:Int)(x1 x2 x3 x4 x5 x6:PV):PV:=.fn 101 [] [.box [.box [.int .i64 f,x1,x2,x3,x4,x5,x6]]]
theorem ajP(f:Int)(ls:List Let)(x1 x2 x3 x4 x5 x6:PV)(hl:ls.length<=1000000)(hn:x1.norm=x1/\x2.norm=x2/\x3.norm=x3/\x4.norm=x4/\x5.norm=x5/\x6.norm=x6):
  ∃k:Int,(0<=k↔ls.any (dy f)=true)/\aK S 123 [.one (.p (cK ls)),.one (.p (dfn f x1 x2 x3 x4 x5 x6))] (ri k):=by
 have main:∀r:Int,(∀(k:Nat) l,ls[k]?=some l->dy f l=true->(∀(j:Nat) m,j<k->ls[j]?=some m->dy f m=false)->r=k)->((∀(j:Nat) m,ls[j]?=some m->dy f m=false)->r= -1)->
   aK S 123 [.one (.p (cK ls)),.one (.p (dfn f x1 x2 x3 x4 x5 x6))] (ri r):=by
  intro r jE vA;refine bh c123 ?_;simp only[go_sem,i123];refine cU (fun k ak aj=>ak 0=.one (.p (cK ls))/\ak 1=.one (.p (dfn f x1 x2 x3 x4 x5 x6))/\ak 7=vi ls.length/\ak 8=vi k/\ ∀j m,j<k->ls[j]?=some m->dy f m=false) 0 ls.length (bl _) ?_ ?_
  .simp only[go_sem];exact⟨rfl,fun j m h=>absurd h (nE j)⟩
  rintro k ak aj hk ⟨h0,h1,h7,h8,hn⟩
  by_cases au:k<ls.length
  .obtain⟨l,ef⟩:=aM au;have hi:=ia ef;have aL:((k:Int)<(ls.length:Int)):=aa;have w1:=cA (n:=k) aa;have pb:=ajO f l x1 x2 x3 x4 x5 x6;cases hb:dy f l with
   |true=>rw[hb] at pb;have hr:=jE k l ef hb hn;subst hr;simp only[go_sem,i123_l1,h0,h1,h7,h8,hi,Let.ps,aL,s101,dA pb]
   |false=>
    rw[hb] at pb;simp only[go_sem,i123_l1,h0,h1,h7,h8,hi,Let.ps,aL,w1,s101,dA pb];refine⟨au,fun j m hj hm=>?_⟩;rcases mU.1 hj with hj|rfl
    .exact hn j m hj hm
    rw[ef] at hm;cases hm;exact hb
  have:k=ls.length:=aa;subst this;have hr:=vA fun j m hm=>hn j m (aW.1 hm).1 hm;subst hr;simp only[go_sem,i123_l1,i123_r2,h7,h8,dT]
 cases ha:ls.any (dy f) with
 |true=>
  have hx:ls.findIdx (dy f)<ls.length:=avK (by simpa using ha);refine⟨(ls.findIdx (dy f):Nat),⟨fun _=>rfl,fun _=>aa⟩,main _ ?_ ?_⟩
  .intro k l ef hb hn;have hk:=(aW.1 ef).1;have h1:dy f ls[ls.findIdx (dy f)]=true:=ail;rcases Lg (ls.findIdx (dy f)) k with h|h|h
   .have:=hn _ _ h (my hx);rw[h1] at this;cases this
   .rw[h]
   have:=List.not_of_lt_findIdx h;have e:ls[k]=l:=by rw[my hk] at ef;exact rj ef
   rw[e,hb] at this;simp at this
  intro hn;have h1:dy f ls[ls.findIdx (dy f)]=true:=ail;have:=hn _ _ (my hx);rw[h1] at this;cases this
 |false=>refine⟨-1,⟨fun h=>aa,fun h=>by cases h⟩,main _ ?_ (fun _=>rfl)⟩;intro k l ef hb _;have:=HD.1 ha l (aU ef);exact(this hb).elim
theorem akP(f:Int)(ls:List Let)(x1 x2 x3 x4 x5 x6:PV)(hl:ls.length<=1000000)(hn:x1.norm=x1/\x2.norm=x2/\x3.norm=x3/\x4.norm=x4/\x5.norm=x5/\x6.norm=x6):
  aK S 100 [.one (.p (cK ls)),.one (.p (dfn f x1 x2 x3 x4 x5 x6))] (rb (ls.any (dy f))):=by
 obtain⟨k,hk,pk⟩:=ajP f ls x1 x2 x3 x4 x5 x6 hl hn;refine bh c100 ?_;cases ha:ls.any (dy f) with
 |true=>have h0:=hk.2 ha;simp only[go_sem,i100,s123,dY pk,h0]
 |false=>
  have h0:¬0<=k:=fun h=>by rw[hk.1 h] at ha;cases ha
  simp only[go_sem,i100,s123,dY pk,h0]
abbrev IF(f:Int)(ls:List Let)(x2 x3 x4 x5 x6:PV):PV:=.box [.int .i64 f,cK ls,x2,x3,x4,x5,x6]
theorem alk(f:Int)(ls:List Let)(x2 x3 x4 x5 x6:PV)(hl:ls.length<=1000000)(hn:x2.norm=x2/\x3.norm=x3/\x4.norm=x4/\x5.norm=x5/\x6.norm=x6):
  aK S 75 [.one (.p (IF f ls x2 x3 x4 x5 x6))] (rb (!ls.any (dy f))):=by
 have pc:=akP f ls (cK ls) x2 x3 x4 x5 x6 hl ⟨rfl,hn.1,hn.2.1,hn.2.2.1,hn.2.2.2.1,hn.2.2.2.2⟩;refine bh c75 ?_;simp only[go_sem,i75,s100,dA pc]
theorem ale(f:Int)(ls:List Let)(l0:Let)(x2 x3 x4 x5 x6:PV)(hl:ls.length<=1000000)(h0:ls[0]?=some l0):
  aK S 76 [.one (.p (IF f ls x2 x3 x4 x5 x6))] (rb (l0.kind==1&&aw Let.aG ls%2==0)):=by
 have pp:=Xp f ls hl;have zJ:=ia h0;refine bh c76 ?_;have e2:((((aw Let.aG ls)%2:Nat):Int)==0)=(aw Let.aG ls%2==0):=by
  cases h:(aw Let.aG ls%2==0) with
  |true=>simp at h ⊢;omega
  |false=>simp at h ⊢;omega
 cases hk:(l0.kind==1) with
 |true=>simp only[go_sem,i76,zJ,Let.ps,hk,s92,dY pp,jq,eo,e2]
 |false=>simp only[go_sem,i76,zJ,Let.ps,hk]
def nJ(g:Nat)(l:Let):Bool:=l.aG&&l.gate==(g:Int)
abbrev cg(ls:List Let)(g:Nat):Nat:=aw (nJ g) ls
def rA(ls:List Let)(F k:Nat):List Nat:=(List.range (F+1)).map fun g=>cg (ls.take k) g
def counts(ls:List Let)(F:Nat):List Nat:=(List.range (F+1)).map (cg ls)
theorem aam{ls:List Let}{k G:Nat}(h:G<=F):(rA ls F k)[G]?=some (cg (ls.take k) G):=by simp[rA,uf (show G<F+1 by omega)]
theorem Th(ls:List Let)(F:Nat):rA ls F ls.length=counts ls F:=by simp[rA,counts]
theorem Ti(ls:List Let)(F:Nat):rA ls F 0=List.replicate (F+1) 0:=by apply xt<;>simp[rA]
theorem aao{ls:List Let}{k:Nat}{l:Let}(h:ls[k]?=some l)(hp:l.aG=false):rA ls F (k+1)=rA ls F k:=by unfold rA;congr 1;funext g;exact jA h (by simp[nJ,hp])
theorem aan{ls:List Let}{k G:Nat}{l:Let}(h:ls[k]?=some l)(hp:l.aG=true)(hg:l.gate=(G:Int)):
  rA ls F (k+1)=(rA ls F k).set G (cg (ls.take k) G+1):=by
 apply xt
 .simp[rA]
 intro i h1 h2;rw[K8];simp only[rA,Dx,K7];split
 .rename_i e;subst e;exact sk h (by simp[nJ,hp,hg])
 exact jA h (by simp[nJ,hg];intro _ e;omega)
theorem Ka(o:List Nat)(k n:Nat):(nP o).set k [.int .i64 (n:Int)]=nP (o.set k n):=by simp[K9]
theorem Xf(o:List Nat):(nP o).length=o.length:=af
theorem Xg(n m:Nat):nP (List.replicate n m)=List.replicate n [.int .i64 (m:Int)]:=af
theorem ZE(n:Nat)(b:Bool):bP (List.replicate n b)=List.replicate n [.bool b]:=af
theorem IG{ls:List Let}{k:Nat}{l:Let}(h:ls[k]?=some l)(hp:l.aG=true):dn ls (k+1)= !dn ls k:=by
 unfold dn;rw[sk h hp];cases hc:(aw Let.aG (ls.take k)%2==0) with
 |true=>simp at hc ⊢;omega
 |false=>simp at hc ⊢;omega
theorem LU{ls:List Let}{k:Nat}{l:Let}(h:ls[k]?=some l)(hp:l.aG=false):dn ls (k+1)=dn ls k:=by unfold dn;rw[jA h hp]
def iJ(ls:List Let)(i:Nat):Bool:=match ls[i]? with|some l=>l.aG&&dn ls i|none=>false
def tA(ls:List Let)(k:Nat):List Bool:=(List.range ls.length).map fun i=>decide (i<k)&&iJ ls i
def ke(ls:List Let):List Bool:=(List.range ls.length).map (iJ ls)
theorem als(ls:List Let):tA ls 0=List.replicate ls.length false:=by apply xt<;>simp[tA]
theorem alo(ls:List Let):tA ls ls.length=ke ls:=by unfold tA ke;apply Aq;intro i hi;simp[gA.1 hi]
theorem alq(ls:List Let)(k:Nat):(tA ls k).length=ls.length:=by simp[tA]
theorem alr{ls:List Let}{k:Nat}{l:Let}(h:ls[k]?=some l)(hp:l.aG=false):tA ls (k+1)=tA ls k:=by
 unfold tA;apply Aq;intro i hi;by_cases e:i=k
 .subst e;simp[iJ,h,hp]
 have:(i<k+1)↔(i<k):=aa;simp[this]
theorem alp{ls:List Let}{k:Nat}{l:Let}(h:ls[k]?=some l)(hp:l.aG=true):tA ls (k+1)=(tA ls k).set k (dn ls k):=by
 apply xt
 .simp[tA]
 intro i h1 h2;rw[K8];simp only[tA,Dx,K7];split
 .rename_i e;subst e;simp[iJ,h,hp]
 have:(i<k+1)↔(i<k):=aa;simp[this]
def fJ(ls:List Let)(g:Nat):Nat:=((List.range g).map (cg ls)).sum
theorem rB(ls:List Let)(g:Nat):fJ ls (g+1)=fJ ls g+cg ls g:=by simp[fJ,we]
def wI(ls:List Let)(F k:Nat):List Nat:=(List.range (F+1)).map fun g=>if g<k then fJ ls g else 0
def IV(ls:List Let)(F:Nat):List Nat:=(List.range (F+1)).map (fJ ls)
theorem amt(ls:List Let)(F:Nat):wI ls F 0=List.replicate (F+1) 0:=by apply xt<;>simp[wI]
theorem amq(ls:List Let)(F:Nat):wI ls F (F+1)=IV ls F:=by unfold wI IV;apply Aq;intro i hi;simp[gA.1 hi]
theorem amr(ls:List Let)(F k:Nat):(wI ls F k).length=F+1:=by simp[wI]
theorem ams(ls:List Let)(F k:Nat):wI ls F (k+1)=(wI ls F k).set k (fJ ls k):=by
 apply xt
 .simp[wI]
 intro i h1 h2;rw[K8];simp only[wI,Dx,K7];by_cases e:k=i
 .subst e;simp
 have:(i<k+1)↔(i<k):=aa;simp only[this,ay e]
theorem O4{ls:List Let}{G:Nat}(h:G<=F):(counts ls F)[G]?=some (cg ls G):=by simp[counts,uf (show G<F+1 by omega)]
theorem amu{ls:List Let}{G:Nat}(h:G<=F):(IV ls F)[G]?=some (fJ ls G):=by simp[IV,uf (show G<F+1 by omega)]
theorem xJ{ls:List Let}{a b:Nat}(h:a<=b):fJ ls a<=fJ ls b:=by
 induction h with
 |refl=>exact bJ _
 |step _ ih=>rw[rB];omega
theorem ajv(g:Nat)(a:Let):((a.aG&&(decide (0<=a.gate)&&decide (a.gate<((g+1:Nat):Int))))=true)↔((a.aG&&(decide (0<=a.gate)&&decide (a.gate<(g:Int))))=true\/nJ g a=true):=by
 simp only[nJ,cN,pR,dI];constructor
 .rintro ⟨h1,h2,h3⟩
  by_cases h:a.gate=(g:Int)
  .exact Or.inr ⟨h1,h⟩
  exact Or.inl ⟨h1,h2,aa⟩
 rintro (⟨h1,h2,h3⟩|⟨h1,h2⟩)
 .exact⟨h1,h2,aa⟩
 exact⟨h1,aa,aa⟩
theorem aju(g:Nat)(a:Let):(a.aG&&(decide (0<=a.gate)&&decide (a.gate<(g:Int))))=true->nJ g a=true->False:=by simp only[nJ,cN,pR,dI];omega
theorem Tg{p q r:Let->Bool}(h:∀a,r a=true↔(p a=true\/q a=true))(hn:∀a,p a=true->q a=true->False):∀ls:List Let,ls.countP r=ls.countP p+ls.countP q:=by
 intro ls
 induction ls with
 |nil=>rfl
 |cons a ls ih=>rw[xr,xr,xr,ih];have h1:=h a;have h2:=hn a;cases ep:p a<;>cases eq:q a<;>cases er:r a<;>simp_all<;>omega
theorem ab8(ls:List Let):∀g,fJ ls g=aw (fun l=>l.aG&&(decide (0<=l.gate)&&decide (l.gate<((g:Nat):Int)))) ls:=by
 intro g
 induction g with
 |zero=>symm;show ls.countP _=0;rw[Fk];intro a _;simp only[cN,pR];omega
 |succ g ih=>rw[rB,ih];exact(Tg (ajv g) (aju g) ls).symm
theorem Vu(ls:List Let)(g:Nat):fJ ls g<=ls.length:=by rw[ab8];exact tx _ _
def dC(ls:List Let)(l:Let):Nat:=fJ ls l.gate.toNat+l.aE.toNat-1
def sH(ls:List Let)(p i:Nat):Bool:=match ls[i]? with|some l=>l.aG&&dC ls l==p|none=>false
def xl(ls:List Let)(T k:Nat):List Bool:=(List.range T).map fun p=>(List.range k).any (sH ls p)
def axP(ls:List Let)(k p:Nat):Nat:=((List.range k).find? (sH ls p)).getD 0
def r9(ls:List Let)(T k:Nat):List Nat:=(List.range T).map (axP ls k)
def Bv(ls:List Let)(i:Nat):Nat:=match ls[i]? with|some l=>if l.aG then dC ls l else 0|none=>0
def jw(ls:List Let)(k:Nat):List Nat:=(List.range ls.length).map fun i=>if i<k then Bv ls i else 0
def tg(ls:List Let)(i:Nat):Bool:=match ls[i]? with
 |some l=> !l.aG||(decide (1<=l.aE)&&decide (l.aE<=(cg ls l.gate.toNat:Int)))&& !(List.range i).any (sH ls (dC ls l))
 |none=>true
def yB(ls:List Let):Bool:=(List.range ls.length).all (tg ls)
theorem auK(ls:List Let)(T:Nat):xl ls T 0=List.replicate T false:=by apply xt<;>simp[xl]
theorem ajy(ls:List Let)(T:Nat):r9 ls T 0=List.replicate T 0:=by apply xt<;>simp[r9,axP]
theorem arp(ls:List Let):jw ls 0=List.replicate ls.length 0:=by apply xt<;>simp[jw]
theorem Zx(ls:List Let)(T k:Nat):(r9 ls T k).length=T:=by simp[r9]
theorem arn(ls:List Let)(k:Nat):(jw ls k).length=ls.length:=by simp[jw]
theorem auH{ls:List Let}{T k p:Nat}(h:p<T):(xl ls T k)[p]?=some ((List.range k).any (sH ls p)):=by simp[xl,h]
theorem ac3{ls:List Let}{k p:Nat}{l:Let}(h:ls[k]?=some l)(hp:l.aG=false):sH ls p k=false:=by simp[sH,h,hp]
theorem auJ{ls:List Let}{T k:Nat}{l:Let}(h:ls[k]?=some l)(hp:l.aG=false):xl ls T (k+1)=xl ls T k:=by unfold xl;congr 1;funext p;simp[we,List.any_append,ac3 h hp]
theorem ajx{ls:List Let}{T k:Nat}{l:Let}(h:ls[k]?=some l)(hp:l.aG=false):r9 ls T (k+1)=r9 ls T k:=by unfold r9;congr 1;funext p;simp[axP,we,aik,ac3 h hp]
theorem aro{ls:List Let}{k:Nat}{l:Let}(h:ls[k]?=some l)(hp:l.aG=false):jw ls (k+1)=jw ls k:=by
 unfold jw;apply Aq;intro i hi;by_cases e:i=k
 .subst e;simp[Bv,h,hp]
 have:(i<k+1)↔(i<k):=aa;simp[this]
theorem MO{ls:List Let}{k p:Nat}{l:Let}(h:ls[k]?=some l)(hp:l.aG=true):sH ls p k=(dC ls l==p):=by simp[sH,h,hp]
theorem auI{ls:List Let}{T k:Nat}{l:Let}(h:ls[k]?=some l)(hp:l.aG=true):xl ls T (k+1)=(xl ls T k).set (dC ls l) true:=by
 apply xt
 .simp[xl]
 intro i h1 h2;rw[K8];simp only[xl,Dx,K7,we,List.any_append,List.any_cons,List.any_nil,Bool.or_false,MO h hp];split
 .rename_i e;simp[e]
 rename_i e;simp[e]
theorem ajw{ls:List Let}{T k:Nat}{l:Let}(h:ls[k]?=some l)(hp:l.aG=true)(hn:(List.range k).any (sH ls (dC ls l))=false):r9 ls T (k+1)=(r9 ls T k).set (dC ls l) k:=by
 apply xt
 .simp[r9]
 intro i h1 h2;rw[K8];simp only[r9,Dx,K7,axP,we,aik];by_cases e:dC ls l=i
 .have h3:(List.range k).find? (sH ls i)=none:=by
   rw[<- e,K5];intro x hx hq;rw[HD] at hn;exact hn x hx hq
  have h4:sH ls i k=true:=by rw[MO h hp];simp[e]
  rw[h3,aF e,List.find?_cons,h4];rfl
 have h4:sH ls i k=false:=by rw[MO h hp];simp[e]
 rw[ay e,List.find?_cons,h4];simp
theorem arl{ls:List Let}{k:Nat}{l:Let}(h:ls[k]?=some l)(hp:l.aG=true):jw ls (k+1)=(jw ls k).set k (dC ls l):=by
 apply xt
 .simp[jw]
 intro i h1 h2;rw[K8];simp only[jw,Dx,K7];by_cases e:k=i
 .subst e;simp[Bv,h,hp]
 have:(i<k+1)↔(i<k):=aa;simp only[this,ay e]
theorem XD{ls:List Let}{k:Nat}(hk:k<ls.length)(h:tg ls k=false):yB ls=false:=by unfold yB;rw[Ym];exact⟨k,gA.2 hk,by simp[h]⟩
theorem ash{ls:List Let}(h:∀i,i<ls.length->tg ls i=true):yB ls=true:=by unfold yB;rw[jd];exact fun i hi=>h i (gA.1 hi)
abbrev HQ(id:Nat):Prop:=id=1664320128\/iN id=77
abbrev vg(F:Nat)(ls:List Let)(c2 c3 c4 c5 c6:C):List C:=[.p (.int .i64 (F:Int)),.p (cK ls),c2,c3,c4,c5,c6]
abbrev hs(id g n:Nat):C:=.hsl id g 1 0 n
abbrev qL(F:Nat)(ls:List Let):Prop:=∀l∈ls,l.aG=true->0<=l.gate/\l.gate<=(F:Int)
def Kx(F:Nat)(ls:List Let)(g:Nat)(c5:C)(nL:aA)(v:V)(ao:aA):Prop:=
 v=vb (yB ls)/\Kept HQ nL ao/\(yB ls=true->∃g1 g2 g3 g5,ao 1664320128=(g,some (.var (vg F ls (hs 4928128448 g2 ls.length) (hs 4929344128 g5 (fJ ls (F+1))) (hs 4928192448 g3 ls.length) c5 (hs 4928064448 g1 (F+1)))))/\
  ao 4928064448=(g1,some (.arr 3 1 (nP (counts ls F))))/\ao 4928128448=(g2,some (.arr 4 1 (bP (ke ls))))/\ao 4928192448=(g3,some (.arr 3 1 (nP (jw ls ls.length))))/\
  ao 4929344128=(g5,some (.arr 3 1 (nP (r9 ls (fJ ls (F+1)) ls.length)))))
theorem rk3{al:Al}(okD:al.ok 1664320128=true)(ok:∀id,iN id=77->al.ok id=true){nL aj:aA}{ak:Env}{g g1 g2 g3 g4 F:Nat}{ls:List Let}{c3 c5:C}(hl:ls.length<=1000000)(hF:F<=1000000)(hg:qL F ls)
  (h0:ak 0=.one (.aY 1664320128 g 0)) (h6:ak 6=.one (hs 4928832384 g4 (F+1))) (h7:ak 7=vi (fJ ls (F+1)))
  (bD:aj 1664320128=(g,some (.var (vg F ls (hs 4928128448 g2 ls.length) c3 (hs 4928192448 g3 ls.length) c5 (hs 4928064448 g1 (F+1))))))
  (bC:aj 4928064448=(g1,some (.arr 3 1 (nP (counts ls F))))) (bW:aj 4928128448=(g2,some (.arr 4 1 (bP (ke ls))))) (oO:aj 4928192448=(g3,some (.arr 3 1 (nP (jw ls 0)))))
  (bF:aj 4928832384=(g4,some (.arr 3 1 (nP (IV ls F))))) (hk:Kept HQ nL aj):W S al i77_r5 (mH al [(2,none)] (Kx F ls g c5 nL)) ak aj:=by
 have o1:=ok 4928064448 rfl;have o2:=ok 4928128448 rfl;have o3:=ok 4928192448 rfl;have o4:=ok 4928448192 rfl;have o5:=ok 4928832384 rfl;have o6:=ok 4929344128 rfl;have o7:=ok 4929408064 rfl;have o8:=ok 4929600192 rfl;have hT:=Vu ls (F+1);have Nl:fJ ls (F+1)*8<=140737488355328:=aa;have jE:fJ ls (F+1)<=140737488355328:=aa;simp only[go_sem,i77_r5,h0,h7,bD,Nl,jE,okD,o6,o7];refine cU (fun k ak ao=>ak 0=.one (.aY 1664320128 g 0)/\ak 6=.one (hs 4928832384 g4 (F+1))/\ak 10=.one (hs 4929408064 ((aj 4929408064).1+1) (fJ ls (F+1)))/\ak 114=.one (.p (cK ls))/\ak 115=vi ls.length/\ak 116=vi k/\
  ao 1664320128=(g,some (.var (vg F ls (hs 4928128448 g2 ls.length) (hs 4929344128 ((aj 4929344128).1+1) (fJ ls (F+1))) (hs 4928192448 g3 ls.length) c5 (hs 4928064448 g1 (F+1)))))/\
  ao 4928064448=(g1,some (.arr 3 1 (nP (counts ls F))))/\ao 4928128448=(g2,some (.arr 4 1 (bP (ke ls))))/\ao 4928192448=(g3,some (.arr 3 1 (nP (jw ls k))))/\
  ao 4928832384=(g4,some (.arr 3 1 (nP (IV ls F))))/\ao 4929344128=((aj 4929344128).1+1,some (.arr 3 1 (nP (r9 ls (fJ ls (F+1)) k))))/\ao 4929408064=((aj 4929408064).1+1,some (.arr 4 1 (bP (xl ls (fJ ls (F+1)) k))))/\
  (∀i,i<k->tg ls i=true)/\Kept HQ nL ao) 0 ls.length (bl _) ?_ ?_
 .simp only[go_sem,h0,h6,bC,bW,oO,bF,ajy,auK,Xg,ZE];refine⟨rfl,rfl,fun i h=>absurd h (nE i),?_⟩;repeat(first|exact hk|refine Kept.dJ ?_ (by first|exact Or.inl rfl|exact Or.inr rfl) _)
 rintro k ak ao hk ⟨h0,h6,dZ,Mr,I5,Eb,bD,bC,bW,oO,bF,bA,bT,aq,dw⟩
 by_cases au:k<ls.length
 .obtain⟨l,ef⟩:=aM au;have hi:=ia ef;have aL:((k:Int)<(ls.length:Int)):=aa;have w1:=cA (n:=k) aa;cases hp:(l.kind==1) with
  |false=>
   have iX:l.aG=false:=hp;have nu:(l.kind !=1)=true:=by simp[bne,hp]
   have k9:tg ls k=true:=by simp[tg,ef,iX]
   simp only[go_sem,i77_l3,h0,h6,dZ,Mr,I5,Eb,bD,bC,bW,bF,oO,bA,bT,hi,Let.ps,aL,nu,w1,o8];refine⟨au,?_,?_,?_,?_,?_⟩
   .rw[aro ef iX]
   .rw[ajx ef iX]
   .rw[auJ ef iX]
   .intro i hi;rcases mU.1 hi with h|rfl
    .exact aq i h
    exact k9
   repeat(first|exact dw|refine Kept.dJ ?_ (by first|exact Or.inl rfl|exact Or.inr rfl) _)
  |true=>
   have iX:l.aG=true:=hp;have nu:(l.kind !=1)=false:=by simp[bne,hp]
   obtain⟨Gl,CC⟩:=hg l (aU ef) iX;obtain⟨G,hG⟩:=th Gl;have I7:G<=F:=aa;have F7:G<F+1:=aa;have wO:=jY (O4 (ls:=ls) I7);have AZ:=jY (amu (ls:=ls) I7);have nM:l.gate.toNat=G:=aa;cases r1:decide (l.aE<1) with
   |true=>have rT:l.aE<1:=nG r1;have r1n:¬1<=l.aE:=aa;have dk:=XD au (show tg ls k=false by simp[tg,ef,iX,r1n]);simp only[go_sem,i77_l3,Mr,I5,Eb,hi,Let.ps,aL,nu,rT,o8];refine⟨aH,?_⟩;unfold Kx;refine⟨by rw[dk],?_,fun h=>by rw[dk] at h;cases h⟩;repeat(first|exact dw|refine Kept.dJ ?_ (by first|exact Or.inl rfl|exact Or.inr rfl) _)
   |false=>
    have rT:¬l.aE<1:=fS r1;obtain⟨R,hR⟩:=th (show 0<=l.aE by omega);have r1R:¬((R:Int)<1):=aa;cases r2:decide ((cg ls G:Int)<(R:Int)) with
    |true=>
     have tc:(cg ls G:Int)<(R:Int):=nG r2;have r2n:¬l.aE<=(cg ls l.gate.toNat:Int):=by rw[nM];omega
     have dk:=XD au (show tg ls k=false by simp[tg,ef,iX,r2n]);simp only[go_sem,i77_l3,h0,Mr,I5,Eb,bD,bC,hi,Let.ps,aL,nu,hR,hG,r1R,tc,wO,F7,okD,o1,o8];refine⟨aH,?_⟩;unfold Kx;refine⟨by rw[dk],?_,fun h=>by rw[dk] at h;cases h⟩;repeat(first|exact dw|refine Kept.dJ ?_ (by first|exact Or.inl rfl|exact Or.inr rfl) _)
    |false=>
     have tc:¬(cg ls G:Int)<(R:Int):=fS r2;have hfle:=Vu ls G;have hmono:=xJ (ls:=ls) (show G+1<=F+1 by omega);have wP:=rB ls G;have hPT:dC ls l<fJ ls (F+1):=by unfold dC;rw[nM];omega
     have bU:fJ ls G+R-1=dC ls l:=by unfold dC;rw[nM];omega
     have bR:cg ls G<=ls.length:=tx _ _;have w2:=wrap_add (a:=fJ ls G) (b:=R) aa;have w3:=Hv (a:=fJ ls G+R) aa aa;rw[bU] at w3;have Gz:=sa (auH (ls:=ls) (k:=k) hPT);cases hu:(List.range k).any (sH ls (dC ls l)) with
     |true=>rw[hu] at Gz;have dk:=XD au (show tg ls k=false by simp[tg,ef,iX,hu]);simp only[go_sem,i77_l3,h0,h6,dZ,Mr,I5,Eb,bD,bC,bF,bT,hi,Let.ps,aL,nu,hR,hG,r1R,tc,wO,AZ,F7,w2,w3,Gz,hPT,okD,o1,o5,o7,o8];refine⟨aH,aH,?_⟩;unfold Kx;refine⟨by rw[dk],?_,fun h=>by rw[dk] at h;cases h⟩;repeat(first|exact dw|refine Kept.dJ ?_ (by first|exact Or.inl rfl|exact Or.inr rfl) _)
     |false=>
      rw[hu] at Gz;have k9:tg ls k=true:=by
       have e1:1<=l.aE:=aa;have e2:l.aE<=(cg ls l.gate.toNat:Int):=by rw[nM];omega
       simp[tg,ef,e1,e2,hu]
      obtain⟨a0,wN⟩:=aM (show dC ls l<(r9 ls (fJ ls (F+1)) k).length by rw[Zx];exact hPT);obtain⟨p0,wT⟩:=aM (show k<(jw ls k).length by rw[arn];exact au);have wN:=jY wN;have wT:=jY wT;have s1:=Ik (xl ls (fJ ls (F+1)) k) (dC ls l) true;rw[<- auI ef iX] at s1;have s2:=Ka (r9 ls (fJ ls (F+1)) k) (dC ls l) k;rw[<- ajw ef iX hu] at s2;have s3:=Ka (jw ls k) k (dC ls l);rw[<- arl ef iX] at s3;simp only[go_sem,i77_l3,h0,h6,dZ,Mr,I5,Eb,bD,bC,bW,bF,oO,bA,bT,hi,Let.ps,aL,au,nu,w1,hR,hG,r1R,tc,wO,AZ,F7,w2,w3,Gz,hPT,wN,wT,s1,s2,s3,okD,o1,o3,o5,o6,o7,o8];refine⟨aH,aH,aH,?_,?_⟩
      .intro i hi;rcases mU.1 hi with h|rfl
       .exact aq i h
       exact k9
      repeat(first|exact dw|refine Kept.dJ ?_ (by first|exact Or.inl rfl|exact Or.inr rfl) _)
 have:k=ls.length:=aa;subst this;have hr:=ash aq;simp only[go_sem,i77_l3,i77_r4,I5,Eb,dT];exact⟨by rw[hr],dw,fun _=>⟨g1,g2,g3,(aj 4929344128).1+1,bD,bC,bW,oO,bA⟩⟩
theorem rk2{al:Al}(okD:al.ok 1664320128=true)(ok:∀id,iN id=77->al.ok id=true){nL aj:aA}{ak:Env}{g g1 g2 g3 F:Nat}{ls:List Let}{c3 c5:C}(hl:ls.length<=1000000)(hF:F<=1000000)(hg:qL F ls)
  (h0:ak 0=.one (.aY 1664320128 g 0))
  (bD:aj 1664320128=(g,some (.var (vg F ls (hs 4928128448 g2 ls.length) c3 (hs 4928192448 g3 ls.length) c5 (hs 4928064448 g1 (F+1))))))
  (bC:aj 4928064448=(g1,some (.arr 3 1 (nP (counts ls F))))) (bW:aj 4928128448=(g2,some (.arr 4 1 (bP (ke ls))))) (oO:aj 4928192448=(g3,some (.arr 3 1 (nP (jw ls 0)))))
  (hk:Kept HQ nL aj):W S al i77_r6 (mH al [(2,none)] (Kx F ls g c5 nL)) ak aj:=by
 have o1:=ok 4928064448 rfl;have o2:=ok 4928128448 rfl;have o3:=ok 4928192448 rfl;have o4:=ok 4928448192 rfl;have o5:=ok 4928832384 rfl;have o6:=ok 4929344128 rfl;have o7:=ok 4929408064 rfl;have o8:=ok 4929600192 rfl;have Nl:(F+1)*8<=140737488355328:=aa;have wF:=cA (n:=F) aa;simp only[go_sem,i77_r6,h0,bD,wF,Nl,okD,o5];refine cU (fun k ak ao=>ak 0=.one (.aY 1664320128 g 0)/\ak 6=.one (hs 4928832384 ((aj 4928832384).1+1) (F+1))/\ak 7=vi (fJ ls k)/\ak 88=.one (hs 4928064448 g1 (F+1))/\ak 89=vi ((F+1:Nat):Int)/\ak 90=vi k/\
  ao 1664320128=(g,some (.var (vg F ls (hs 4928128448 g2 ls.length) c3 (hs 4928192448 g3 ls.length) c5 (hs 4928064448 g1 (F+1)))))/\
  ao 4928064448=(g1,some (.arr 3 1 (nP (counts ls F))))/\ao 4928128448=(g2,some (.arr 4 1 (bP (ke ls))))/\ao 4928192448=(g3,some (.arr 3 1 (nP (jw ls 0))))/\
  ao 4928832384=((aj 4928832384).1+1,some (.arr 3 1 (nP (wI ls F k))))/\Kept HQ nL ao) 0 (F+1) (bl _) ?_ ?_
 .simp only[go_sem,h0,bD,bC,bW,oO,amt,Xg];refine⟨rfl,rfl,rfl,?_⟩;repeat(first|exact hk|refine Kept.dJ ?_ (by first|exact Or.inl rfl|exact Or.inr rfl) _)
 rintro k ak ao hk ⟨h0,h6,h7,h88,h89,h90,bD,bC,bW,oO,bF,dw⟩
 by_cases au:k<F+1
 .have aL:((k:Int)<((F+1:Nat):Int)):=aa;have w1:=cA (n:=k) aa;have hc:=jY (O4 (ls:=ls) (show k<=F by omega));obtain⟨a0,ha⟩:=aM (show k<(wI ls F k).length by rw[amr];exact au);have ha:=jY ha;have s1:=Ka (wI ls F k) k (fJ ls k);rw[<- ams] at s1;have hs:=rB ls k;have hle:=Vu ls (k+1);have w2:=wrap_add (a:=fJ ls k) (b:=cg ls k) aa;rw[<- hs] at w2;simp only[go_sem,i77_l2,h0,h6,h7,h88,h89,h90,bD,bC,bW,oO,bF,au,aL,hc,ha,s1,w1,w2,o1,o5];repeat(first|exact dw|refine Kept.dJ ?_ (by first|exact Or.inl rfl|exact Or.inr rfl) _)
 have:k=F+1:=aa;subst this;simp only[go_sem,i77_l2,h89,h90,dT];exact rk3 okD ok hl hF hg h0 h6 h7 bD bC bW oO (by rw[bF,amq]) dw
theorem asg{al:Al}(okD:al.ok 1664320128=true)(ok:∀id,iN id=77->al.ok id=true){aj:aA}{g F:Nat}{ls:List Let}{c2 c3 c4 c5 c6:C}(hl:ls.length<=1000000)(hF:F<=1000000)(hg:qL F ls)
  (bD:aj 1664320128=(g,some (.var (vg F ls c2 c3 c4 c5 c6)))):∃v ao,iF S 77 [.one (.aY 1664320128 g 0)] al aj v ao/\Kx F ls g c5 aj v ao:=by
 have o1:=ok 4928064448 rfl;have o2:=ok 4928128448 rfl;have o3:=ok 4928192448 rfl;have o4:=ok 4928448192 rfl;have o5:=ok 4928832384 rfl;have o6:=ok 4929344128 rfl;have o7:=ok 4929408064 rfl;have o8:=ok 4929600192 rfl;refine mA c77 (ig rfl) ?_;have Nl:(F+1)*8<=140737488355328:=aa;have hn8:ls.length*8<=140737488355328:=aa;have iD:ls.length<=140737488355328:=aa;have wF:=cA (n:=F) aa;simp only[go_sem,i77,bD,wF,Nl,hn8,iD,okD,o1,o2,o3];refine cU (fun k ak ao=>ak 0=.one (.aY 1664320128 g 0)/\ak 3=vb (dn ls k)/\ak 48=.one (.p (cK ls))/\ak 49=vi ls.length/\ak 50=vi k/\
  ao 1664320128=(g,some (.var (vg F ls (hs 4928128448 ((aj 4928128448).1+1) ls.length) c3 (hs 4928192448 ((aj 4928192448).1+1) ls.length) c5 (hs 4928064448 ((aj 4928064448).1+1) (F+1)))))/\
  ao 4928064448=((aj 4928064448).1+1,some (.arr 3 1 (nP (rA ls F k))))/\ao 4928128448=((aj 4928128448).1+1,some (.arr 4 1 (bP (tA ls k))))/\ao 4928192448=((aj 4928192448).1+1,some (.arr 3 1 (nP (jw ls 0))))/\
  Kept HQ aj ao) 0 ls.length (bl _) ?_ ?_
 .simp only[go_sem,bD,Ti,als,arp,Xg,ZE];refine⟨rfl,rfl,rfl,rfl,?_⟩;repeat(first|exact(Kept.refl _ _)|refine Kept.dJ ?_ (by first|exact Or.inl rfl|exact Or.inr rfl) _)
 rintro k ak ao hk ⟨h0,h3,xO,h49,h50,bD,bC,bW,oO,dw⟩
 by_cases au:k<ls.length
 .obtain⟨l,ef⟩:=aM au;have hi:=ia ef;have aL:((k:Int)<(ls.length:Int)):=aa;have w1:=cA (n:=k) aa;cases hp:(l.kind==1) with
  |false=>
   have iX:l.aG=false:=hp;simp only[go_sem,i77_l1,h0,h3,xO,h49,h50,bD,bC,bW,oO,hi,Let.ps,aL,hp,w1,o4];refine⟨au,?_,?_,?_,?_⟩
   .rw[LU ef iX]
   .rw[aao ef iX]
   .rw[alr ef iX]
   repeat(first|exact dw|refine Kept.dJ ?_ (by first|exact Or.inl rfl|exact Or.inr rfl) _)
  |true=>have iX:l.aG=true:=hp;obtain⟨Gl,CC⟩:=hg l (aU ef) iX;obtain⟨G,hG⟩:=th Gl;have I7:G<=F:=aa;have F7:G<F+1:=aa;have wO:=jY (aam (ls:=ls) (k:=k) I7);have bR:cg (ls.take k) G<=k:=y7 _ _ _;have w2:=cA (n:=cg (ls.take k) G) aa;have s1:=Ka (rA ls F k) G (cg (ls.take k) G+1);rw[<- aan ef iX hG] at s1;obtain⟨b0,hb⟩:=aM (show k<(tA ls k).length by rw[alq];exact au);have hb:=sa hb;have s2:=Ik (tA ls k) k (dn ls k);rw[<- alp ef iX] at s2;have hd:=IG ef iX;simp only[go_sem,i77_l1,h0,h3,xO,h49,h50,bD,bC,bW,oO,hi,Let.ps,aL,au,hp,w1,hG,wO,F7,w2,s1,hb,s2,hd,okD,o1,o2,o4];refine⟨aH,?_⟩;repeat(first|exact dw|refine Kept.dJ ?_ (by first|exact Or.inl rfl|exact Or.inr rfl) _)
 have:k=ls.length:=aa;subst this;simp only[go_sem,i77_l1,h49,h50,dT];exact rk2 okD ok hl hF hg h0 bD (by rw[bC,Th]) (by rw[bW,alo]) oO dw
def qO(ls:List Let)(id:Int)(o:Bool)(j:Nat):Bool:=match ls[j]? with|some m=>m.aC&&(m.id==id&&m.over==o)|none=>false
def fV(ls:List Let)(k:Nat)(id:Int)(o:Bool):Option Nat:=(List.range k).find? (qO ls id o)
def BO:Option Nat->Int
 |some j=>j
 |none=> -1
def eU(ls:List Let):Nat->List Int
 |0=>[]
 |k+1=>match ls[k]? with
  |some l=>if l.aC&& !(eU ls k).contains l.id then eU ls k++[l.id] else eU ls k
  |none=>eU ls k
def qI(ls:List Let)(k:Nat)(id:Int):List PV:=[.int .i64 (BO (fV ls k id false)),.int .i64 (BO (fV ls k id true))]
def pL(ls:List Let)(k:Nat):List (PV×List PV):=(eU ls k).map fun id=>(PV.int .i64 id,qI ls k id)
def Dl(ls:List Let)(j:Nat):Int:=((ls[j]?).map Let.sign).getD 0
def mu(ls:List Let)(n2:Nat)(k:Nat):Bool:=match ls[k]? with
 |some l=> !l.aC||((decide (1<=l.id)&&decide (l.id<=(n2:Int)))&&((fV ls k l.id l.over).isNone&&(match fV ls k l.id (!l.over) with|some j=>Dl ls j==l.sign|none=>true)))
 |none=>true
def kL(ls:List Let):Bool:=(aw Let.aC ls%2==0)&&(List.range ls.length).all (mu ls (aw Let.aC ls/2))&&((eU ls ls.length).length==aw Let.aC ls/2)
theorem Jp{ls:List Let}{k:Nat}{l:Let}(h:ls[k]?=some l)(hc:l.aC=true)(id:Int)(o:Bool):qO ls id o k=(l.id==id&&l.over==o):=by simp[qO,h,hc]
theorem ada{ls:List Let}{k:Nat}{l:Let}(h:ls[k]?=some l)(hc:l.aC=false)(id:Int)(o:Bool):qO ls id o k=false:=by simp[qO,h,hc]
theorem R0(ls:List Let)(k:Nat)(id:Int)(o:Bool):fV ls (k+1) id o=(fV ls k id o).or (if qO ls id o k then some k else none):=by simp only[fV,we,aik,List.find?_cons,List.find?_nil];cases qO ls id o k<;>rfl
theorem Hq{ls:List Let}{k:Nat}{id:Int}{o:Bool}{j:Nat}(h:fV ls k id o=some j):j<k/\qO ls id o j=true:=
 ⟨gA.1 (Lb h),OC h⟩
theorem A2{ls:List Let}{id:Int}{o:Bool}{j:Nat}(h:qO ls id o j=true):∃m,ls[j]?=some m/\m.aC=true/\m.id=id/\m.over=o:=by
 unfold qO at h;split at h
 .rename_i m hm;simp only[cN,dI] at h;exact⟨m,hm,h.1,h.2.1,h.2.2⟩
 cases h
theorem Oq{ls:List Let}{k:Nat}{id:Int}{o:Bool}(h:fV ls k id o=none){j:Nat}(hj:j<k):qO ls id o j=false:=by
 have:=K5.1 h j (gA.2 hj)
 simpa using this
theorem adz{ls:List Let}{k:Nat}{l:Let}(h:ls[k]?=some l)(hc:l.aC=false):eU ls (k+1)=eU ls k:=by simp[eU,h,hc]
theorem adA{ls:List Let}{k:Nat}{l:Let}(h:ls[k]?=some l)(hc:l.aC=true)(hn:l.id∉eU ls k):eU ls (k+1)=eU ls k++[l.id]:=by simp[eU,h,hc,hn]
theorem adB{ls:List Let}{k:Nat}{l:Let}(h:ls[k]?=some l)(hn:l.id∈eU ls k):eU ls (k+1)=eU ls k:=by simp[eU,h,hn]
theorem ap6{ls:List Let}{k:Nat}{l:Let}(h:ls[k]?=some l)(hc:l.aC=false):pL ls (k+1)=pL ls k:=by unfold pL qI;rw[adz h hc];simp[R0,ada h hc]
theorem aoA{ls:List Let}{id:Int}:∀(k:Nat),k<=ls.length->(id∈eU ls k↔ ∃j o,j<k/\qO ls id o j=true):=by
 intro k
 induction k with
 |zero=>intro _;simp[eU]
 |succ k ih=>
  intro hk;obtain⟨l,hl⟩:=aM (show k<ls.length by omega);have ih:=ih aa;have old:(∃j o,j<k/\qO ls id o j=true)->∃j o,j<k+1/\qO ls id o j=true:=fun⟨j,o,h1,h2⟩=>⟨j,o,aa,h2⟩;cases hc:l.aC with
  |false=>
   rw[adz hl hc,ih];refine⟨old,?_⟩;rintro ⟨j,o,h1,h2⟩
   rcases mU.1 h1 with h|rfl
   .exact⟨j,o,h,h2⟩
   rw[ada hl hc] at h2;cases h2
  |true=>
   have key:id∈eU ls (k+1)↔(id∈eU ls k\/id=l.id):=by
    by_cases hm:l.id∈eU ls k
    .rw[adB hl hm];exact⟨Or.inl,fun h=>h.elim eT (fun e=>e▸hm)⟩
    rw[adA hl hc hm];simp
   rw[key,ih];constructor
   .rintro (h|rfl)
    .exact old h
    exact⟨k,l.over,aa,by rw[Jp hl hc];simp⟩
   rintro ⟨j,o,h1,h2⟩
   rcases mU.1 h1 with h|rfl
   .exact Or.inl ⟨j,o,h,h2⟩
   rw[Jp hl hc] at h2;simp only[cN,dI] at h2;exact Or.inr h2.1.symm
where eT {p:Prop} (h:p):p:=h
theorem GF{ls:List Let}{id:Int}{k:Nat}(h:k<=ls.length):id∈eU ls k↔ ∃j o,j<k/\qO ls id o j=true:=aoA k h
theorem Qm(ls:List Let):∀k,(eU ls k).Nodup:=by
 intro k
 induction k with
 |zero=>simp[eU]
 |succ k ih=>
  unfold eU;split
  .split
   .rename_i h;simp only[cN,mv,Yo,decide_eq_false_iff_not] at h;rw[Dz];refine⟨ih,af,?_⟩;intro a ha b hb;simp only[lD] at hb;subst hb;rintro rfl
    exact h.2 ha
   exact ih
  exact ih
theorem avd{ls:List Let}{k:Nat}(hk:k<=ls.length){id:Int}(h:id∉eU ls k)(o:Bool):fV ls k id o=none:=by
 cases hv:fV ls k id o with
 |none=>rfl
 |some j=>obtain⟨h1,h2⟩:=Hq hv;exact absurd ((GF hk).2 ⟨j,o,h1,h2⟩) h
theorem ahU{ls:List Let}{k:Nat}(hk:k<=ls.length){id:Int}(h:id∈eU ls k)(o:Bool)(hn:fV ls k id o=none):∃j m,fV ls k id (!o)=some j/\ls[j]?=some m/\j<k:=by
 obtain⟨j,o',h1,h2⟩:=(GF hk).1 h;by_cases e:o'=o
 .subst e;rw[Oq hn h1] at h2;cases h2
 have e:o'= !o:=by cases o<;>cases o'<;>simp_all
 subst e;cases hv:fV ls k id (!o) with
 |none=>rw[Oq hv h1] at h2;cases h2
 |some i=>obtain⟨h3,h4⟩:=Hq hv;obtain⟨m,hm,_⟩:=A2 h4;exact⟨i,m,rfl,hm,h3⟩
theorem ahV{ls:List Let}{k:Nat}{l:Let}(h:ls[k]?=some l)(hc:l.aC=true){id:Int}(hn:¬l.id=id)(o:Bool):fV ls (k+1) id o=fV ls k id o:=by rw[R0,Jp h hc];simp[hn]
theorem Yb{ls:List Let}{k:Nat}{l:Let}(h:ls[k]?=some l)(hc:l.aC=true)(hn:fV ls k l.id l.over=none):fV ls (k+1) l.id l.over=some k:=by rw[R0,Jp h hc,hn];simp
theorem Ya{ls:List Let}{k:Nat}{l:Let}(h:ls[k]?=some l)(hc:l.aC=true):fV ls (k+1) l.id (!l.over)=fV ls k l.id (!l.over):=by rw[R0,Jp h hc];cases l.over<;>simp
theorem aaN{ls:List Let}{k:Nat}{l:Let}(h:ls[k]?=some l)(hc:l.aC=true){id:Int}(hn:¬l.id=id):qI ls (k+1) id=qI ls k id:=by unfold qI;rw[ahV h hc hn,ahV h hc hn]
theorem ap7{ls:List Let}{k:Nat}{l:Let}(h:ls[k]?=some l)(hc:l.aC=true)(hn:l.id∉eU ls k):pL ls (k+1)=pL ls k++[(.int .i64 l.id,qI ls (k+1) l.id)]:=by unfold pL;rw[adA h hc hn,j6];congr 1;apply Aq;intro id hid;rw[aaN h hc (by rintro rfl;exact hn hid)]
theorem ap8{ls:List Let}{k:Nat}{l:Let}(h:ls[k]?=some l)(hc:l.aC=true)(hn:l.id∈eU ls k):pL ls (k+1)=(pL ls k).set ((eU ls k).idxOf l.id) (.int .i64 l.id,qI ls (k+1) l.id):=by
 unfold pL;rw[adB h hn];apply xt
 .simp
 intro i h1 h2;rw[K8];simp only[cD] at h1;by_cases e:(eU ls k).idxOf l.id=i
 .subst e;simp only[Dx,aF,Yu]
 rw[ay e];simp only[Dx];rw[aaN h hc];intro e2;apply e;rw[e2];exact(Qm ls k).idxOf_getElem i h1
theorem ab7(ls:List Let)(k:Nat)(q:Int):oU (.int .i64 q) (pL ls k) 0=some (if q∈eU ls k then some ((eU ls k).idxOf q,qI ls k q) else none):=by unfold pL;rw[amn];simp
theorem Iy{ls:List Let}{k:Nat}(hk:k<ls.length)(h:mu ls (aw Let.aC ls/2) k=false):kL ls=false:=by have:(List.range ls.length).all (mu ls (aw Let.aC ls/2))=false:=Ym.2 ⟨k,gA.2 hk,by simp[h]⟩;simp[kL,this]
theorem Tm{ls:List Let}(he:aw Let.aC ls%2=0)(h:∀i,i<ls.length->mu ls (aw Let.aC ls/2) i=true):kL ls=((eU ls ls.length).length==aw Let.aC ls/2):=by have:(List.range ls.length).all (mu ls (aw Let.aC ls/2))=true:=jd.2 fun i hi=>h i (gA.1 hi);simp[kL,this,he]
abbrev YK(id:Nat):Prop:=id=1664320128\/iN id=78
def Hy(F:Nat)(ls:List Let)(g:Nat)(c2 c3 c4 c6:C)(nL:aA)(v:V)(ao:aA):Prop:=v=vb (kL ls)/\Kept YK nL ao/\(kL ls=true->∃g1,ao 1664320128=(g,some (.var (vg F ls c2 c3 c4 (.jW 4992256064 g1) c6)))/\ao 4992256064=(g1,some (.map true (pL ls ls.length))))
theorem ge0(j:Nat):decide ((0:Int)<=(j:Int))=true:=xx aa
theorem wr0:IntKind.i64.wrap 0=0:=ae
theorem wr1:IntKind.i64.wrap 1=1:=ae
theorem Kb:((-1:Int)≥0)=False:=af
theorem neg1':((0:Int)<= -1)=False:=af
theorem alf{al:Al}(okD:al.ok 1664320128=true)(ok:∀id,iN id=78->al.ok id=true){aj:aA}{g F:Nat}{ls:List Let}{c2 c3 c4 c5 c6:C}(hl:ls.length<=1000000)
  (bD:aj 1664320128=(g,some (.var (vg F ls c2 c3 c4 c5 c6)))):∃v ao,iF S 78 [.one (.aY 1664320128 g 0)] al aj v ao/\Hy F ls g c2 c3 c4 c6 aj v ao:=by
 have o1:=ok 4992256064 rfl;have o2:=ok 4992448192 rfl;have o3:=ok 4992704640 rfl;refine mA c78 (ig rfl) ?_;have pc:=Tn F ls hl;have bR:aw Let.aC ls<=ls.length:=tx _ _;cases he:(((aw Let.aC ls%2:Nat):Int)!=0) with
 |true=>
  have dk:kL ls=false:=by
   have:(aw Let.aC ls%2==0)=false:=by simp at he ⊢;omega
   simp[kL,this]
  simp only[go_sem,i78,bD,s48,Mk pc,jq,eo,he,okD];exact⟨by rw[dk],Kept.refl _ _,fun h=>by rw[dk] at h;cases h⟩
 |false=>
  have he0:aw Let.aC ls%2=0:=by simp at he;omega
  simp only[go_sem,i78,bD,s48,Mk pc,jq,eo,he,okD,o1];refine cU (fun k ak ao=>ak 0=.one (.aY 1664320128 g 0)/\ak 3=vi (aw Let.aC ls)/\ak 25=.one (.p (cK ls))/\ak 26=vi ls.length/\ak 27=vi k/\
   ao 1664320128=(g,some (.var (vg F ls c2 c3 c4 (.jW 4992256064 ((aj 4992256064).1+1)) c6)))/\ao 4992256064=((aj 4992256064).1+1,some (.map true (pL ls k)))/\
   (∀i,i<k->mu ls (aw Let.aC ls/2) i=true)/\Kept YK aj ao) 0 ls.length (bl _) ?_ ?_
  .simp only[go_sem,bD];refine⟨rfl,rfl,fun i h=>absurd h (nE i),?_⟩;repeat(first|exact(Kept.refl _ _)|refine Kept.dJ ?_ (by first|exact Or.inl rfl|exact Or.inr rfl) _)
  rintro k ak ao hk ⟨h0,h3,lZ,xM,xN,bD,bM,aq,dw⟩
  have wq:IntKind.i64.wrap ((aw Let.aC ls/2:Nat):Int)=((aw Let.aC ls/2:Nat):Int):=wrap_small aa;by_cases au:k<ls.length
  .obtain⟨l,ef⟩:=aM au;have hi:=ia ef;have aL:((k:Int)<(ls.length:Int)):=aa;have w1:=cA (n:=k) aa;cases hc:(l.kind==2) with
   |false=>
    have kE:l.aC=false:=hc;have hp:(l.kind !=2)=true:=by simp[bne,hc]
    have k9:mu ls (aw Let.aC ls/2) k=true:=by simp[mu,ef,kE]
    simp only[go_sem,i78_l1,h0,h3,lZ,xM,xN,bD,bM,hi,Let.ps,aL,hp,w1,o2];refine⟨au,?_,?_,?_⟩
    .rw[ap6 ef kE]
    .intro i hi;rcases mU.1 hi with h|rfl
     .exact aq i h
     exact k9
    repeat(first|exact dw|refine Kept.dJ ?_ (by first|exact Or.inl rfl|exact Or.inr rfl) _)
   |true=>
    have kE:l.aC=true:=hc;have hp:(l.kind !=2)=false:=by simp[bne,hc]
    cases r1:decide (l.id<1) with
    |true=>have rT:l.id<1:=nG r1;have r1n:¬1<=l.id:=aa;have dk:=Iy au (show mu ls (aw Let.aC ls/2) k=false by simp[mu,ef,kE,r1n]);simp only[go_sem,i78_l1,lZ,xM,xN,hi,Let.ps,aL,hp,rT,o2];unfold Hy;refine⟨by rw[dk],?_,fun h=>by rw[dk] at h;cases h⟩;repeat(first|exact dw|refine Kept.dJ ?_ (by first|exact Or.inl rfl|exact Or.inr rfl) _)
    |false=>
     have rT:¬l.id<1:=fS r1;have r1y:1<=l.id:=aa;cases r2:decide (((aw Let.aC ls/2:Nat):Int)<l.id) with
     |true=>have tc:((aw Let.aC ls/2:Nat):Int)<l.id:=nG r2;have r2n:¬l.id<=((aw Let.aC ls/2:Nat):Int):=aa;have dk:=Iy au (show mu ls (aw Let.aC ls/2) k=false by simp only[mu,ef,kE,r2n];simp);simp only[go_sem,i78_l1,h3,lZ,xM,xN,hi,Let.ps,aL,hp,rT,tc,fv,eo,wq,o2];unfold Hy;refine⟨by rw[dk],?_,fun h=>by rw[dk] at h;cases h⟩;repeat(first|exact dw|refine Kept.dJ ?_ (by first|exact Or.inl rfl|exact Or.inr rfl) _)
     |false=>
      have tc:¬((aw Let.aC ls/2:Nat):Int)<l.id:=fS r2;have r2y:l.id<=((aw Let.aC ls/2:Nat):Int):=aa;have hf:=ab7 ls k l.id;have ny:mu ls (aw Let.aC ls/2) k=((fV ls k l.id l.over).isNone&&(match fV ls k l.id (!l.over) with|some j=>Dl ls j==l.sign|none=>true)):=by simp only[mu,ef,kE,r1y,r2y,decide_true];rfl
      by_cases hm:l.id∈eU ls k
      .rw[aF hm] at hf;obtain⟨e0,hse⟩:=aM (show(eU ls k).idxOf l.id<(pL ls k).length by simp[pL];exact List.idxOf_lt_length_of_mem hm);have A9:=ap8 ef kE hm;have ML:qI ls k l.id=[.int .i64 (BO (fV ls k l.id false)),.int .i64 (BO (fV ls k l.id true))]:=rfl;rw[ML] at hf;cases ho:l.over with
       |true=>
        cases hv:fV ls k l.id true with
        |some j=>have dk:=Iy au (show mu ls (aw Let.aC ls/2) k=false by rw[ny,ho,hv];rfl);rw[hv] at hf;simp only[BO] at hf;simp only[go_sem,i78_l1,h0,h3,lZ,xM,xN,bD,bM,hi,Let.ps,aL,hp,rT,tc,fv,eo,wq,hf,ho,ge0,mapOf,mapVal,iw,Int.reduceNeg,okD,o1,o2,o3];refine⟨aH,aH,?_⟩;unfold Hy;refine⟨by rw[dk],?_,fun h=>by rw[dk] at h;cases h⟩;repeat(first|exact dw|refine Kept.dJ ?_ (by first|exact Or.inl rfl|exact Or.inr rfl) _)
        |none=>
         obtain⟨j,m,hj,Gn,hjk⟩:=ahU hk hm true hv;have hj:fV ls k l.id false=some j:=hj;have CH:=ia Gn;have JB:Dl ls j=m.sign:=by simp[Dl,Gn]
         rw[hv,hj] at hf;simp only[BO] at hf;cases hs:(m.sign==l.sign) with
         |false=>
          have fp:(m.sign !=l.sign)=true:=by simp[bne,hs]
          have dk:=Iy au (show mu ls (aw Let.aC ls/2) k=false by rw[ny,ho,hv];simp only[BQ,hj,JB,hs];rfl);simp only[go_sem,i78_l1,h0,h3,lZ,xM,xN,bD,bM,hi,Let.ps,aL,hp,rT,tc,fv,eo,wq,hf,ho,Kb,CH,fp,wr0,mapOf,mapVal,iw,Int.reduceNeg,Int.reduceSub,okD,o1,o2,o3];refine⟨aH,aH,?_⟩;unfold Hy;refine⟨by rw[dk],?_,fun h=>by rw[dk] at h;cases h⟩;repeat(first|exact dw|refine Kept.dJ ?_ (by first|exact Or.inl rfl|exact Or.inr rfl) _)
         |true=>
          have fp:(m.sign !=l.sign)=false:=by simp[bne,hs]
          have k9:mu ls (aw Let.aC ls/2) k=true:=by rw[ny,ho,hv];simp only[BQ,hj,JB,hs];rfl
          have qR:=Yb ef kE (show fV ls k l.id l.over=none by rw[ho];exact hv);have wU:=Ya ef kE;rw[ho] at qR wU;rw[show fV ls k l.id (!true)=some j from hj] at wU;have VY:qI ls (k+1) l.id=[.int .i64 (j:Int),.int .i64 (k:Int)]:=by simp only[qI];rw[qR,show fV ls (k+1) l.id false=some j from wU];rfl
          rw[VY] at A9;simp only[go_sem,i78_l1,h0,h3,lZ,xM,xN,bD,bM,hi,Let.ps,aL,hp,w1,rT,tc,fv,eo,wq,hf,ho,Kb,CH,fp,wr0,mapOf,mapVal,iw,xD,Int.reduceNeg,Int.reduceSub,okD,o1,o2,o3];refine⟨aH,aH,aH,?_⟩;refine⟨au,?_,?_,?_⟩
          .rw[A9]
          .intro i hi;rcases mU.1 hi with h|rfl
           .exact aq i h
           exact k9
          repeat(first|exact dw|refine Kept.dJ ?_ (by first|exact Or.inl rfl|exact Or.inr rfl) _)
       |false=>
        cases hv:fV ls k l.id false with
        |some j=>have dk:=Iy au (show mu ls (aw Let.aC ls/2) k=false by rw[ny,ho,hv];rfl);rw[hv] at hf;simp only[BO] at hf;simp only[go_sem,i78_l1,h0,h3,lZ,xM,xN,bD,bM,hi,Let.ps,aL,hp,rT,tc,fv,eo,wq,hf,ho,ge0,mapOf,mapVal,iw,Int.reduceNeg,okD,o1,o2,o3];refine⟨aH,aH,?_⟩;unfold Hy;refine⟨by rw[dk],?_,fun h=>by rw[dk] at h;cases h⟩;repeat(first|exact dw|refine Kept.dJ ?_ (by first|exact Or.inl rfl|exact Or.inr rfl) _)
        |none=>
         obtain⟨j,m,hj,Gn,hjk⟩:=ahU hk hm false hv;have hj:fV ls k l.id true=some j:=hj;have CH:=ia Gn;have JB:Dl ls j=m.sign:=by simp[Dl,Gn]
         rw[hv,hj] at hf;simp only[BO] at hf;cases hs:(m.sign==l.sign) with
         |false=>
          have fp:(m.sign !=l.sign)=true:=by simp[bne,hs]
          have dk:=Iy au (show mu ls (aw Let.aC ls/2) k=false by rw[ny,ho,hv];simp only[HC,hj,JB,hs];rfl);simp only[go_sem,i78_l1,h0,h3,lZ,xM,xN,bD,bM,hi,Let.ps,aL,hp,rT,tc,fv,eo,wq,hf,ho,Kb,CH,fp,wr1,mapOf,mapVal,iw,Int.reduceNeg,Int.reduceSub,okD,o1,o2,o3];refine⟨aH,aH,?_⟩;unfold Hy;refine⟨by rw[dk],?_,fun h=>by rw[dk] at h;cases h⟩;repeat(first|exact dw|refine Kept.dJ ?_ (by first|exact Or.inl rfl|exact Or.inr rfl) _)
         |true=>
          have fp:(m.sign !=l.sign)=false:=by simp[bne,hs]
          have k9:mu ls (aw Let.aC ls/2) k=true:=by rw[ny,ho,hv];simp only[HC,hj,JB,hs];rfl
          have qR:=Yb ef kE (show fV ls k l.id l.over=none by rw[ho];exact hv);have wU:=Ya ef kE;rw[ho] at qR wU;rw[show fV ls k l.id (!false)=some j from hj] at wU;have VY:qI ls (k+1) l.id=[.int .i64 (k:Int),.int .i64 (j:Int)]:=by simp only[qI];rw[qR,show fV ls (k+1) l.id true=some j from wU];rfl
          rw[VY] at A9;simp only[go_sem,i78_l1,h0,h3,lZ,xM,xN,bD,bM,hi,Let.ps,aL,hp,w1,rT,tc,fv,eo,wq,hf,ho,Kb,CH,fp,wr1,mapOf,mapVal,iw,xD,Int.reduceNeg,Int.reduceSub,okD,o1,o2,o3];refine⟨aH,aH,aH,?_⟩;refine⟨au,?_,?_,?_⟩
          .rw[A9]
          .intro i hi;rcases mU.1 hi with h|rfl
           .exact aq i h
           exact k9
          repeat(first|exact dw|refine Kept.dJ ?_ (by first|exact Or.inl rfl|exact Or.inr rfl) _)
      rw[ay hm] at hf;have hv:=avd hk hm;have l6:=ap7 ef kE hm;have k9:mu ls (aw Let.aC ls/2) k=true:=by rw[ny,hv,hv];rfl
      have qR:=Yb ef kE (hv _);have wU:=Ya ef kE;rw[hv] at wU;cases ho:l.over with
      |true=>
       rw[ho] at qR wU;have ML:qI ls (k+1) l.id=[.int .i64 (-1),.int .i64 (k:Int)]:=by simp only[qI];rw[qR,show fV ls (k+1) l.id false=none from wU];rfl
       rw[ML] at l6;simp only[go_sem,i78_l1,h0,h3,lZ,xM,xN,bD,bM,hi,Let.ps,aL,hp,w1,rT,tc,fv,eo,wq,hf,ho,Kb,mapOf,mapVal,iw,xD,OK,Int.reduceNeg,okD,o1,o2,o3];refine⟨aH,aH,aH,?_⟩;refine⟨au,?_,?_,?_⟩
       .rw[l6]
       .intro i hi;rcases mU.1 hi with h|rfl
        .exact aq i h
        exact k9
       repeat(first|exact dw|refine Kept.dJ ?_ (by first|exact Or.inl rfl|exact Or.inr rfl) _)
      |false=>
       rw[ho] at qR wU;have ML:qI ls (k+1) l.id=[.int .i64 (k:Int),.int .i64 (-1)]:=by simp only[qI];rw[qR,show fV ls (k+1) l.id true=none from wU];rfl
       rw[ML] at l6;simp only[go_sem,i78_l1,h0,h3,lZ,xM,xN,bD,bM,hi,Let.ps,aL,hp,w1,rT,tc,fv,eo,wq,hf,ho,Kb,mapOf,mapVal,iw,xD,OK,Int.reduceNeg,okD,o1,o2,o3];refine⟨aH,aH,aH,?_⟩;refine⟨au,?_,?_,?_⟩
       .rw[l6]
       .intro i hi;rcases mU.1 hi with h|rfl
        .exact aq i h
        exact k9
       repeat(first|exact dw|refine Kept.dJ ?_ (by first|exact Or.inl rfl|exact Or.inr rfl) _)
  have:k=ls.length:=aa;subst this;have hr:=Tm he0 aq;have nj:(pL ls ls.length).length=(eU ls ls.length).length:=by simp[pL]
  have hb:((((eU ls ls.length).length:Nat):Int)==((aw Let.aC ls/2:Nat):Int))=((eU ls ls.length).length==aw Let.aC ls/2):=by
   cases h:((eU ls ls.length).length==aw Let.aC ls/2) with
   |true=>simp at h ⊢;omega
   |false=>simp at h ⊢;omega
  simp only[go_sem,i78_l1,i78_r2,h0,h3,xM,xN,bD,bM,dT,zX,Int.reduceNeg,nj,fv,eo,wq,hb,okD,o1];exact⟨by rw[hr],dw,fun _=>⟨_,bD,bM⟩⟩
theorem FM{p:Let->Bool}{ls:List Let}{i:Nat}{l:Let}(h:ls[i]?=some l)(hp:p l=true):aw p ls=1↔ ∀j m,ls[j]?=some m->p m=true->j=i:=by
 obtain⟨hi,e⟩:=aW.1 h;have hs:ls=ls.take i++l::ls.drop (i+1):=by rw[<- e,tj];simp
 have hc:aw p ls=aw p (ls.take i)+(aw p (ls.drop (i+1))+1):=by
  conv=>lhs;rw[hs]
  simp[aw,v7,hp]
 constructor
 .intro h1 j m hj hm;have z1:aw p (ls.take i)=0:=aa;have z2:aw p (ls.drop (i+1))=0:=aa;have z1:=Fk.1 z1;have z2:=Fk.1 z2;rcases Lg j i with A4|A4|A4
  .have:m∈ls.take i:=aU (i:=j) (by rw[kJ,aF A4,hj]);exact absurd hm (z1 m this)
  .exact A4
  have:m∈ls.drop (i+1):=aU (i:=j-(i+1)) (by rw[xu,show i+1+(j-(i+1))=j by omega,hj]);exact absurd hm (z2 m this)
 intro hu;have z1:aw p (ls.take i)=0:=by
  refine Fk.2 fun m hm mN=>?_;obtain⟨j,hj⟩:=je hm;have A4:j<i:=by have:=(aW.1 hj).1;rw[fX] at this;omega
  rw[kJ,aF A4] at hj;have:=hu j m hj mN;omega
 have z2:aw p (ls.drop (i+1))=0:=by refine Fk.2 fun m hm mN=>?_;obtain⟨j,hj⟩:=je hm;rw[xu] at hj;have:=hu _ m hj mN;omega
 omega
theorem akG{p:Let->Bool}{ls:List Let}(h:∀(i j:Nat) (l m:Let),ls[i]?=some l->ls[j]?=some m->p l=true->p m=true->i=j):aw p ls<=1:=by
 by_cases hz:aw p ls=0
 .omega
 have:0<ls.countP p:=Nat.pos_of_ne_zero hz;obtain⟨l,hl,hp⟩:=yN.1 this;obtain⟨i,hi⟩:=je hl;have:=(FM hi hp).2 fun j m hj hm=>h j i m l hj hi hm hp;omega
structure uz (F:Nat) (ls:List Let) (l:Let):Prop where
 g0:0<=l.gate
 g1:l.gate<=(F:Int)
 r0:1<=l.aE
 r1:l.aE<=(cg ls l.gate.toNat:Int)
theorem Hc{ls:List Let}{l m:Let}(hl:uz F ls l)(hm:uz F ls m):dC ls l=dC ls m↔l.gate=m.gate/\l.aE=m.aE:=by
 obtain⟨l1,l2,l3,l4⟩:=hl;obtain⟨m1,m2,m3,m4⟩:=hm;unfold dC;constructor
 .intro h;have sl:=rB ls l.gate.toNat;have sm:=rB ls m.gate.toNat;rcases Lg l.gate.toNat m.gate.toNat with c|c|c
  .have:=xJ (ls:=ls) (show l.gate.toNat+1<=m.gate.toNat by omega);omega
  .rw[c] at h;omega
  have:=xJ (ls:=ls) (show m.gate.toNat+1<=l.gate.toNat by omega);omega
 rintro ⟨h1,h2⟩;rw[h1,h2]
theorem arq{ls:List Let}{l m:Let}(hl:uz F ls l)(hm:uz F ls m):GO l m=true↔dC ls l<dC ls m:=by
 obtain⟨l1,l2,l3,l4⟩:=hl;obtain⟨m1,m2,m3,m4⟩:=hm;unfold dC GO;simp only[yJ,cN,pR,dI];have sl:=rB ls l.gate.toNat;have sm:=rB ls m.gate.toNat;rcases Lg l.gate.toNat m.gate.toNat with c|c|c
 .have:=xJ (ls:=ls) (show l.gate.toNat+1<=m.gate.toNat by omega);omega
 .rw[c];omega
 have:=xJ (ls:=ls) (show m.gate.toNat+1<=l.gate.toNat by omega);omega
theorem Xw{ls:List Let}{l:Let}(hl:uz F ls l):dC ls l<fJ ls (F+1):=by obtain⟨l1,l2,l3,l4⟩:=hl;unfold dC;have sl:=rB ls l.gate.toNat;have:=xJ (ls:=ls) (show l.gate.toNat+1<=F+1 by omega);omega
theorem Rg{ls:List Let}{i:Nat}{l:Let}(h:ls[i]?=some l)(hp:l.aG=true):tg ls i=true↔1<=l.aE/\l.aE<=(cg ls l.gate.toNat:Int)/\ ∀j m,j<i->ls[j]?=some m->m.aG=true->dC ls m≠dC ls l:=by
 simp only[tg,h,hp,BQ,BP,cN,pR,mv,HD,gA];constructor
 .rintro ⟨⟨h1,h2⟩,h3⟩
  refine⟨h1,h2,fun j m hj hm mN e=>?_⟩;have:=h3 j hj;rw[MO hm mN] at this;simp[e] at this
 rintro ⟨h1,h2,h3⟩
 refine⟨⟨h1,h2⟩,fun j hj=>?_⟩;unfold sH;split
 .rename_i m hm;cases mN:m.aG with
  |false=>simp
  |true=>simpa using h3 j m hj hm mN
 simp
theorem N8{ls:List Let}(hg:qL F ls):yB ls=true↔(∀l∈ls,l.aG=true->uz F ls l)/\ ∀(i j:Nat) (l m:Let),ls[i]?=some l->ls[j]?=some m->l.aG=true->m.aG=true->dC ls l=dC ls m->i=j:=by
 unfold yB;rw[jd];constructor
 .intro h;refine⟨fun l hl hp=>?_,fun i j l m hi hj bU mN e=>?_⟩
  .obtain⟨i,hi⟩:=je hl;have:=(Rg hi hp).1 (h i (gA.2 (aW.1 hi).1));exact⟨(hg l hl hp).1,(hg l hl hp).2,this.1,this.2.1⟩
  have ci:=(Rg hi bU).1 (h i (gA.2 (aW.1 hi).1));have cj:=(Rg hj mN).1 (h j (gA.2 (aW.1 hj).1));rcases Lg i j with c|c|c
  .exact absurd e (cj.2.2 i l c hi bU)
  .exact c
  exact absurd e.symm (ci.2.2 j m c hj mN)
 rintro ⟨h1,h2⟩ i hi
 obtain⟨l,hl⟩:=aM (gA.1 hi);cases hp:l.aG with
 |false=>simp[tg,hl,hp]
 |true=>have hg:=h1 l (aU hl) hp;refine(Rg hl hp).2 ⟨hg.r0,hg.r1,fun j m hj hm mN e=>?_⟩;have:=h2 j i m l hm hl mN hp e;omega
theorem Qn(g:Int)(h:0<=g)(l:Let):nY g l=nJ g.toNat l:=by unfold nY nJ;rw[aie h]
theorem sY{l:Let}(hp:l.aG=true):dy f l=false↔(((0<=l.gate/\l.gate<=f)/\l.id=0)/\l.sign=0)/\l.over=false:=by unfold Let.aG at hp;simp only[dy,hp,if_true,Oz,decide_eq_false_iff_not,bne_eq_false_iff_eq,Int.not_lt]
theorem Kj{ls:List Let}{l:Let}(hp:l.aG=true):vL f ls l=true↔dy f l=false/\1<=l.aE/\l.aE<=(aw (nY l.gate) ls:Int)/\aw (iM l) ls=1:=by
 rw[sY hp];unfold vL;simp only[mv,Oz,decide_eq_false_iff_not,bne_eq_false_iff_eq];constructor
 .rintro ⟨⟨⟨⟨⟨⟨⟨a,b⟩,c⟩,d⟩,e⟩,g⟩,h⟩,i⟩
  exact⟨⟨⟨⟨⟨aa,aa⟩,a⟩,b⟩,c⟩,aa,aa,aa⟩
 rintro ⟨⟨⟨⟨⟨d,e⟩,a⟩,b⟩,c⟩,g,h,i⟩
 exact⟨⟨⟨⟨⟨⟨⟨a,b⟩,c⟩,aa⟩,aa⟩,aa⟩,aa⟩,aa⟩
theorem Rk{l m:Let}(hp:l.aG=true):iM l m=true↔m.aG=true/\m.gate=l.gate/\m.aE=l.aE:=by unfold Let.aG at hp ⊢;simp only[dI] at hp;unfold iM;simp only[cN,dI,hp,and_assoc]
theorem aq4{ls:List Let}:(∀l∈ls,l.aG=true->vL F ls l=true)↔(∀l∈ls,l.aG=true->dy F l=false)/\yB ls=true:=by
 constructor
 .intro h;have hb:∀l∈ls,l.aG=true->dy F l=false:=fun l hl hp=>((Kj hp).1 (h l hl hp)).1;have hg:qL F ls:=fun l hl hp=>((sY hp).1 (hb l hl hp)).1.1.1;refine⟨hb,(N8 hg).2 ⟨fun l hl hp=>?_,fun i j l m hi hj bU mN e=>?_⟩⟩
  .obtain⟨_,h2,h3,_⟩:=(Kj hp).1 (h l hl hp);have:=hg l hl hp;refine⟨this.1,this.2,h2,?_⟩;have e:aw (nY l.gate) ls=cg ls l.gate.toNat:=by unfold cg aw;congr 1;funext m;exact Qn _ this.1 m
   omega
  have gl:uz F ls l:=by
   obtain⟨_,h2,h3,_⟩:=(Kj bU).1 (h l (aU hi) bU);have:=hg l (aU hi) bU;have e:aw (nY l.gate) ls=cg ls l.gate.toNat:=by unfold cg aw;congr 1;funext m;exact Qn _ this.1 m
   exact⟨this.1,this.2,h2,aa⟩
  have gm:uz F ls m:=by
   obtain⟨_,h2,h3,_⟩:=(Kj mN).1 (h m (aU hj) mN);have:=hg m (aU hj) mN;have e:aw (nY m.gate) ls=cg ls m.gate.toNat:=by unfold cg aw;congr 1;funext m;exact Qn _ this.1 m
   exact⟨this.1,this.2,h2,aa⟩
  have e2:=(Hc gl gm).1 e;have hs:=((Kj mN).1 (h m (aU hj) mN)).2.2.2;exact(FM hj ((Rk mN).2 ⟨mN,rfl,rfl⟩)).1 hs i l hi ((Rk mN).2 ⟨bU,e2.1,e2.2⟩)
 rintro ⟨hb,hr⟩ l hl hp
 have hg:qL F ls:=fun l hl hp=>((sY hp).1 (hb l hl hp)).1.1.1;obtain⟨h1,h2⟩:=(N8 hg).1 hr;have gl:=h1 l hl hp;have e:aw (nY l.gate) ls=cg ls l.gate.toNat:=by unfold cg aw;congr 1;funext m;exact Qn _ gl.g0 m
 obtain⟨i,hi⟩:=je hl;refine(Kj hp).2 ⟨hb l hl hp,gl.r0,by rw[e];exact gl.r1,(FM hi ((Rk hp).2 ⟨hp,rfl,rfl⟩)).2 fun j m hj hs=>?_⟩;obtain⟨mN,eg,er⟩:=(Rk hp).1 hs;exact h2 j i m l hj hi mN hp ((Hc (h1 m (aU hj) mN) gl).2 ⟨eg,er⟩)
def rI(id:Int)(o:Bool)(l:Let):Bool:=l.aC&&(l.id==id&&l.over==o)
theorem Jo{ls:List Let}{j:Nat}{m:Let}(h:ls[j]?=some m)(id:Int)(o:Bool):qO ls id o j=rI id o m:=by simp[qO,rI,h]
theorem qh{id:Int}{o:Bool}{l:Let}:rI id o l=true↔l.aC=true/\l.id=id/\l.over=o:=by unfold rI;simp only[cN,dI]
def GZ(ls:List Let):Prop:=∀(i j:Nat) (l m:Let),ls[i]?=some l->ls[j]?=some m->l.aC=true->m.aC=true->l.id=m.id->i≠j->l.over≠m.over/\l.sign=m.sign
def WD(ls:List Let):Prop:=∀l∈ls,l.aC=true->1<=l.id/\l.id<=((aw Let.aC ls/2:Nat):Int)
theorem ah8{ls:List Let}{n2 k:Nat}{l:Let}(h:ls[k]?=some l)(hc:l.aC=true):mu ls n2 k=true↔(1<=l.id/\l.id<=(n2:Int))/\fV ls k l.id l.over=none/\ ∀j,fV ls k l.id (!l.over)=some j->Dl ls j=l.sign:=by
 simp only[mu,h,hc,BQ,BP,cN,pR,Option.isNone_iff_eq_none];constructor
 .rintro ⟨h1,h2,h3⟩
  refine⟨h1,h2,fun j hj=>?_⟩;rw[hj] at h3
  simpa using h3
 rintro ⟨h1,h2,h3⟩
 refine⟨h1,h2,?_⟩;split
 .rename_i j hj
  simpa using h3 j hj
 rfl
theorem Hx{ls:List Let}:(∀k,k<ls.length->mu ls (aw Let.aC ls/2) k=true)↔WD ls/\GZ ls:=by
 constructor
 .intro h;have hx:∀ {k:Nat} {l:Let},ls[k]?=some l->l.aC=true->_:=fun {k l} hk hc=>(ah8 (n2:=aw Let.aC ls/2) hk hc).1 (h k (aW.1 hk).1);refine⟨fun l hl hc=>?_,?_⟩
  .obtain⟨i,hi⟩:=je hl;exact(hx hi hc).1
  have key:∀(i j:Nat) (l m:Let),ls[i]?=some l->ls[j]?=some m->l.aC=true->m.aC=true->l.id=m.id->i<j->l.over≠m.over/\l.sign=m.sign:=by
   intro i j l m hi hj bR xU he fm;obtain⟨_,hn,hs⟩:=hx hj xU;have ho:l.over≠m.over:=by intro e;have:=Oq hn fm;rw[Jo hi,qh.2 ⟨bR,he,e⟩] at this;cases this
   refine⟨ho,?_⟩;have kQ:l.over= !m.over:=by revert ho;cases l.over<;>cases m.over<;>simp
   cases hv:fV ls j m.id (!m.over) with
   |none=>have:=Oq hv fm;rw[Jo hi,qh.2 ⟨bR,he,kQ⟩] at this;cases this
   |some p=>
    have h3:=hs p hv;obtain⟨sN,nu⟩:=Hq hv;obtain⟨x,jl,Nx,jt,hxo⟩:=A2 nu;have:p=i:=by
     rcases Lg p i with c|c|c
     .have vw:=(hx hi bR).2.1;have:=Oq vw c;rw[Jo jl,qh.2 ⟨Nx,by rw[jt,he],by rw[hxo,kQ]⟩] at this;cases this
     .exact c
     have h4:(List.range j).find? (qO ls m.id (!m.over))=some p:=hv;rw[List.find?_range_eq_some] at h4;have:=h4.2.2 i c;rw[Jo hi,qh.2 ⟨bR,he,kQ⟩] at this;cases this
    subst this;rw[hi] at jl;cases jl
    simpa [Dl,hi] using h3
  intro i j l m hi hj bR xU he fm;rcases YH fm with c|c
  .exact key i j l m hi hj bR xU he c
  have:=key j i m l hj hi xU bR he.symm c;exact⟨fun e=>this.1 e.symm,this.2.symm⟩
 rintro ⟨h1,h2⟩ k hk
 obtain⟨l,hl⟩:=aM hk;cases hc:l.aC with
 |false=>simp[mu,hl,hc]
 |true=>
  refine(ah8 hl hc).2 ⟨h1 l (aU hl) hc,?_,fun j hj=>?_⟩
  .cases hv:fV ls k l.id l.over with
   |none=>rfl
   |some p=>obtain⟨sN,nu⟩:=Hq hv;obtain⟨x,jl,Nx,jt,hxo⟩:=A2 nu;exact absurd hxo (h2 p k x l jl hl Nx hc jt aa).1
  obtain⟨sN,nu⟩:=Hq hj;obtain⟨x,jl,Nx,jt,hxo⟩:=A2 nu;have:=(h2 j k x l jl hl Nx hc jt aa).2;simp[Dl,jl,this]
theorem auA(ls:List Let):∀ids:List Int,ids.Nodup->(ids.map fun id=>aw (lf id) ls).sum=aw (fun l=>l.aC&&ids.contains l.id) ls:=by
 intro ids
 induction ids with
 |nil=>intro _;simp[aw]
 |cons a ids ih=>
  intro hn;rw[qy] at hn;rw[dK,Sl,ih hn.2];refine(Tg (p:=lf a) (q:=fun l=>l.aC&&ids.contains l.id) (r:=fun l=>l.aC&&(a::ids).contains l.id) ?_ ?_ ls).symm
  .intro l;simp only[lf,cN,dI,Yo,pR,cM];constructor
   .rintro ⟨h1,h2|h2⟩
    .exact .inl ⟨h1,h2⟩
    exact .inr ⟨h1,h2⟩
   rintro (⟨h1,h2⟩|⟨h1,h2⟩)
   .exact⟨h1,.inl h2⟩
   exact⟨h1,.inr h2⟩
  intro l;simp only[lf,cN,dI,Yo,pR];rintro ⟨_,h1⟩ ⟨_,h2⟩
  exact hn.1 (h1▸h2)
theorem Ql{ls:List Let}{l:Let}(hl:l∈ls)(hc:l.aC=true):l.id∈eU ls ls.length:=by obtain⟨i,hi⟩:=je hl;refine(GF (bJ _)).2 ⟨i,l.over,(aW.1 hi).1,?_⟩;rw[Jo hi];exact qh.2 ⟨hc,rfl,rfl⟩
theorem XZ(ls:List Let):((eU ls ls.length).map fun id=>aw (lf id) ls).sum=aw Let.aC ls:=by
 rw[auA _ _ (Qm ls _)];apply KY;intro l hl;cases hc:l.aC with
 |false=>simp
 |true=>simp[Ql hl hc]
theorem Qu(id:Int)(ls:List Let):aw (lf id) ls=aw (rI id true) ls+aw (rI id false) ls:=by
 refine Tg ?_ ?_ ls
 .intro l;rw[qh,qh];simp only[lf,cN,dI];cases l.over<;>simp
 intro l;rw[qh,qh];rintro ⟨_,_,h1⟩ ⟨_,_,h2⟩
 rw[h1] at h2;cases h2
theorem WI(id:Int)(o:Bool)(ls:List Let):aw (lf id) ls=aw (rI id o) ls+aw (rI id (!o)) ls:=by
 rw[Qu];cases o with
 |true=>rfl
 |false=>simp only[HC];omega
theorem A1{ls:List Let}(h:GZ ls)(id:Int)(o:Bool):aw (rI id o) ls<=1:=by refine akG fun i j l m hi hj hl hm=>?_;obtain⟨l1,l2,l3⟩:=qh.1 hl;obtain⟨m1,m2,m3⟩:=qh.1 hm;refine Decidable.byContradiction fun aI=>?_;exact(h i j l m hi hj l1 m1 (by rw[l2,m2]) aI).1 (by rw[l3,m3])
theorem ahy{f:Int->Nat}:∀ids:List Int,(∀x∈ids,f x<=2)->(ids.map f).sum<=2*ids.length:=by
 intro ids
 induction ids with
 |nil=>intro _;simp
 |cons a ids ih=>intro h;have:=ih fun x hx=>h x (ug _ hx);have:=h a La;simp only[dK,Sl,dh];omega
theorem Zl{f:Int->Nat}:∀ids:List Int,(∀x∈ids,f x<=2)->(ids.map f).sum=2*ids.length->∀x∈ids,f x=2:=by
 intro ids
 induction ids with
 |nil=>intro _ _ x hx;cases hx
 |cons a ids ih=>
  intro h hs;have h1:=ahy ids fun x hx=>h x (ug _ hx);have h2:=h a La;simp only[dK,Sl,dh] at hs;intro x hx;rcases cM.1 hx with rfl|hx
  .omega
  exact ih (fun x hx=>h x (ug _ hx)) aa x hx
theorem auB{f:Int->Nat}:∀ids:List Int,(∀x∈ids,f x=2)->(ids.map f).sum=2*ids.length:=by
 intro ids
 induction ids with
 |nil=>intro _;simp
 |cons a ids ih=>intro h;have:=ih fun x hx=>h x (ug _ hx);have:=h a La;simp only[dK,Sl,dh];omega
theorem Xo{l m:Let}(hc:l.aC=true):iz l m=true↔m.aC=true/\m.id=l.id/\m.sign=l.sign/\m.over= !l.over:=by unfold Let.aC at hc ⊢;simp only[dI] at hc;unfold iz;simp only[cN,dI,hc,and_assoc,mv,lE,ne_eq];cases l.over<;>cases m.over<;>simp
theorem QN{l:Let}(hc:l.aC=true):dy f l=false↔(l.gate=0/\l.aE=0)/\(l.sign !=1&&l.sign != -1)=false:=by
 unfold Let.aC at hc;have h1:(l.kind==1)=false:=by simp only[dI] at hc;rw[hc];rfl
 simp only[dy,hc,h1,if_true];simp
theorem afL{ls:List Let}{l:Let}(hc:l.aC=true):lO ls l=true↔dy f l=false/\(1<=l.id/\l.id<=((aw Let.aC ls/2:Nat):Int))/\aw (iz l) ls=1/\aw (lf l.id) ls=2:=by
 rw[QN hc];unfold lO;simp only[mv,Oz,decide_eq_false_iff_not,bne_eq_false_iff_eq];constructor
 .rintro ⟨⟨⟨⟨⟨⟨a,b⟩,c⟩,d⟩,e⟩,g⟩,h⟩
  exact⟨⟨⟨a,b⟩,c⟩,⟨aa,aa⟩,aa,aa⟩
 rintro ⟨⟨⟨a,b⟩,c⟩,⟨d,e⟩,g,h⟩
 exact⟨⟨⟨⟨⟨⟨a,b⟩,c⟩,aa⟩,aa⟩,aa⟩,aa⟩
theorem akY{ls:List Let}:(∀l∈ls,l.aC=true->lO ls l=true)↔(∀l∈ls,l.aC=true->dy f l=false)/\kL ls=true:=by
 have Ns:=XZ ls;constructor
 .intro h;have dM:=fun l hl hc=>(afL (f:=f) hc).1 (h l hl hc);have hp:GZ ls:=by
   intro i j l m hi hj bR xU he fm;obtain⟨_,_,h3,h4⟩:=dM l (aU hi) bR;have e1:=WI l.id l.over ls;have g1:0<aw (rI l.id l.over) ls:=yN.2 ⟨l,aU hi,qh.2 ⟨bR,rfl,rfl⟩⟩;obtain⟨x,hx,yq⟩:=yN.1 (show 0<ls.countP (iz l) by show 0<aw (iz l) ls;omega);obtain⟨x1,x2,x3,x4⟩:=(Xo bR).1 yq;have g2:0<aw (rI l.id (!l.over)) ls:=yN.2 ⟨x,hx,qh.2 ⟨x1,x2,x4⟩⟩;have u1:aw (rI l.id l.over) ls=1:=aa;have u2:aw (rI l.id (!l.over)) ls=1:=aa;have ho:l.over≠m.over:=by intro e;have:=(FM hi (qh.2 ⟨bR,rfl,rfl⟩)).1 u1 j m hj (qh.2 ⟨xU,he.symm,e.symm⟩);exact fm this.symm
   refine⟨ho,?_⟩;have kQ:m.over= !l.over:=by revert ho;cases l.over<;>cases m.over<;>simp
   obtain⟨p,jl⟩:=je hx;have:=(FM hj (qh.2 ⟨xU,he.symm,kQ⟩)).1 u2 p x jl (qh.2 ⟨x1,x2,x4⟩);subst this;rw[jl] at hj;cases hj;exact x3.symm
  have aov:∀id∈eU ls ls.length,aw (lf id) ls=2:=by intro id hid;obtain⟨j,o,h1,h2⟩:=(GF (bJ _)).1 hid;obtain⟨m,hm,hc,hi,_⟩:=A2 h2;rw[<- hi];exact(dM m (aU hm) hc).2.2.2
  rw[auB _ aov] at Ns;refine⟨fun l hl hc=>(dM l hl hc).1,?_⟩;have hx:=(Hx (ls:=ls)).2 ⟨fun l hl hc=>(dM l hl hc).2.1,hp⟩;rw[Tm aa hx];simp only[dI];omega
 rintro ⟨hb,hr⟩ l hl hc
 unfold kL at hr;simp only[cN,dI,jd,gA] at hr;obtain⟨⟨he,hx⟩,hlen⟩:=hr;obtain⟨hid,hp⟩:=Hx.1 hx;have hle:∀id∈eU ls ls.length,aw (lf id) ls<=2:=fun id _=>by rw[Qu id];have:=A1 hp id true;have:=A1 hp id false;omega
 have h2:=Zl _ hle (by rw[Ns,hlen];omega) l.id (Ql hl hc);have e1:=WI l.id l.over ls;have b1:=A1 hp l.id l.over;have b2:=A1 hp l.id (!l.over);refine(afL hc).2 ⟨hb l hl hc,hid l hl hc,?_,h2⟩;have u2:aw (rI l.id (!l.over)) ls=1:=aa;obtain⟨i,hi⟩:=je hl;obtain⟨x,hx,yq⟩:=yN.1 (show 0<ls.countP (rI l.id (!l.over)) by show 0<aw (rI l.id (!l.over)) ls;omega);obtain⟨p,jl⟩:=je hx;obtain⟨x1,x2,x3⟩:=qh.1 yq;have gD:p≠i:=by
  rintro rfl
  rw[hi] at jl;cases jl;revert x3;cases l.over<;>simp
 have hsg:=(hp p i x l jl hi x1 hc x2 gD).2;refine(FM jl ((Xo hc).2 ⟨x1,x2,hsg,x3⟩)).2 fun j m hj hm=>?_;obtain⟨m1,m2,m3,m4⟩:=(Xo hc).1 hm;exact(FM jl yq).1 u2 j m hj (qh.2 ⟨m1,m2,m4⟩)
theorem yX{l:Let}(h:dy f l=false):l.aG=true\/l.aC=true:=by
 unfold Let.aG Let.aC;cases h1:(l.kind==1) with
 |true=>exact .inl rfl
 |false=>
  cases h2:(l.kind==2) with
  |true=>exact .inr rfl
  |false=>simp only[dy,h1,h2] at h;cases h
theorem nz{l:Let}(hp:l.aG=true):l.aC=false:=by unfold Let.aG at hp;unfold Let.aC;simp only[dI] at hp;rw[hp];rfl
theorem afN{ls:List Let}{l:Let}(hp:l.aG=true):eJ f ls l=vL f ls l:=by unfold Let.aG at hp;simp only[eJ,hp,if_true]
theorem afM{ls:List Let}{l:Let}(hp:l.aC=true):eJ f ls l=lO ls l:=by
 unfold Let.aC at hp;have h1:(l.kind==1)=false:=by simp only[dI] at hp;rw[hp];rfl
 simp only[eJ,hp,h1,if_true];simp
theorem W3{ls:List Let}:wZ F ls=true↔ls.any (dy F)=false/\yB ls=true/\kL ls=true:=by
 unfold wZ;rw[jd,HD];have e1:=aq4 (F:=F) (ls:=ls);have e2:=akY (f:=(F:Int)) (ls:=ls);constructor
 .intro h;have hk:=fun {l:Let} (hl:l∈ls)=>aeT (f:=F) (ls:=ls) (jd.2 h) (je hl).choose_spec;obtain⟨p1,p2⟩:=e1.1 fun l hl hp=>by rw[<- afN hp];exact h l hl
  obtain⟨c1,c2⟩:=e2.1 fun l hl hc=>by rw[<- afM (f:=F) hc];exact h l hl
  refine⟨fun l hl=>?_,p2,c2⟩;rcases hk hl with hp|hc
  .rw[p1 l hl hp];simp
  rw[c1 l hl hc];simp
 rintro ⟨hb,hr,hc⟩ l hl
 have hb:∀l∈ls,dy F l=false:=fun l hl=>by simpa using hb l hl
 rcases yX (hb l hl) with hp|kE
 .rw[afN hp];exact e1.2 ⟨fun l hl _=>hb l hl,hr⟩ l hl hp
 rw[afM kE];exact e2.2 ⟨fun l hl _=>hb l hl,hc⟩ l hl kE
theorem auf{o:List Nat}(hs:o.Pairwise (· < ·))(au:∀x∈o,x<o.length):∀(k:Nat) (h:k<o.length),o[k]=k:=by
 rw[HK] at hs;have lo:∀(k:Nat) (h:k<o.length),k<=o[k]:=by
  intro k
  induction k with
  |zero=>intro _;omega
  |succ k ih=>intro h;have:=ih aa;have:=hs k (k+1) aa h aa;omega
 have hi:∀(d k:Nat) (h:k<o.length),k+d+1=o.length->o[k]<=k:=by
  intro d
  induction d with
  |zero=>intro k h e;have:=au _ (Yv h);omega
  |succ d ih=>intro k h e;have:=ih (k+1) aa aa;have:=hs k (k+1) h aa aa;omega
 intro k h;have:=lo k h;have:=hi (o.length-k-1) k h aa;omega
theorem aoR{key:Nat->Nat}{p:Nat->Bool}{i:Nat}:∀ {o:List Nat},o.Pairwise (fun a b=>key a<key b)->(∀x∈o,p x=decide (key x<key i))->(∀x∈o,key x≠key i)->
  (o.take (o.takeWhile p).length++i::o.drop (o.takeWhile p).length).Pairwise (fun a b=>key a<key b):=by
 intro o
 induction o with
 |nil=>intro _ _ _;simp
 |cons a o ih=>
  intro hs hp hn;rw[ui] at hs;have pa:=hp a La;have na:=hn a La;by_cases au:key a<key i
  .have NX:p a=true:=by rw[pa];simpa using au
   rw[List.takeWhile_cons,aF NX];simp only[dh,YE,List.drop_succ_cons,yM];rw[ui];refine⟨fun b hb=>?_,ih hs.2 (fun x hx=>hp x (ug _ hx)) (fun x hx=>hn x (ug _ hx))⟩;rcases eD.1 hb with hb|hb
   .exact hs.1 b (xv hb)
   rcases cM.1 hb with rfl|hb
   .exact au
   exact hs.1 b (wa hb)
  have NX:¬p a=true:=by rw[pa];simpa using au
  rw[List.takeWhile_cons,ay NX];simp only[ez,List.take_zero,OA,fY];rw[ui,ui];refine⟨fun b hb=>?_,hs⟩;rcases cM.1 hb with rfl|hb
  .omega
  have:=hs.1 b hb;omega
theorem Hb{ls:List Let}{i:Nat}{l:Let}(h:ls[i]?=some l)(hp:l.aG=true):Bv ls i=dC ls l:=by simp[Bv,h,hp]
structure B0 (F:Nat) (ls:List Let):Prop where
 eF:∀l∈ls,l.aG=true->uz F ls l
 inj:∀(i j:Nat) (l m:Let),ls[i]?=some l->ls[j]?=some m->l.aG=true->m.aG=true->dC ls l=dC ls m->i=j
theorem Zz{ls:List Let}(h:B0 F ls):∀k,k<=ls.length->(nK ls k).Pairwise (fun a b=>Bv ls a<Bv ls b):=by
 intro k
 induction k with
 |zero=>intro _;simp[nK]
 |succ k ih=>
  intro hk;have ih:=ih aa;rw[Ih];obtain⟨l,hl⟩:=aM (show k<ls.length by omega);unfold Ay;rw[hl];simp only;cases hp:l.aG with
  |false=>simpa using ih
  |true=>
   simp only[if_true];unfold zW;have hm:=fun {x:Nat} (hx:x∈nK ls k)=>(Zy (ls:=ls) (k:=k) aa).1 hx;refine aoR ih (fun x hx=>?_) (fun x hx e=>?_)
   .obtain⟨h1,m,hm,vv⟩:=hm hx;rw[Hb hm vv,Hb hl hp];unfold Bk;rw[hm,hl];simp only;have:=arq (h.eF m (aU hm) vv) (h.eF l (aU hl) hp);cases hb:GO m l with
    |true=>simpa using this.1 hb
    |false=>symm;rw[decide_eq_false_iff_not];intro hc;rw[this.2 hc] at hb;cases hb
   obtain⟨h1,m,hm,vv⟩:=hm hx;rw[Hb hm vv,Hb hl hp] at e;have:=h.inj x k m l hm hl vv hp e;omega
theorem ajC{ls:List Let}:∀k,k<=ls.length->(nK ls k).length=aw Let.aG (ls.take k):=by
 intro k
 induction k with
 |zero=>intro _;simp[nK,aw]
 |succ k ih=>
  intro hk;have ih:=ih aa;rw[Ih];obtain⟨l,hl⟩:=aM (show k<ls.length by omega);unfold Ay;rw[hl];simp only;cases hp:l.aG with
  |false=>rw[jA hl hp];simpa using ih
  |true=>simp only[if_true];rw[aoM,sk hl hp,ih]
theorem Ii{ls:List Let}:(aB ls).length=aw Let.aG ls:=by have:=ajC (ls:=ls) ls.length (bJ _);rwa[jQ] at this
theorem Fu{ls:List Let}(h:qL F ls):fJ ls (F+1)=(aB ls).length:=by
 rw[Ii,ab8];apply KY;intro l hl;cases hp:l.aG with
 |false=>simp
 |true=>have:=h l hl hp;simp only[An,cN,pR,iff_true];omega
theorem B0.qL{ls:List Let}(h:B0 F ls):qL F ls:=fun l hl hp=>⟨(h.eF l hl hp).g0,(h.eF l hl hp).g1⟩
theorem B9{ls:List Let}(h:B0 F ls){k i:Nat}(hk:(aB ls)[k]?=some i):∃l,ls[i]?=some l/\l.aG=true/\dC ls l=k:=by
 have hs:((aB ls).map (Bv ls)).Pairwise (· < ·):=by rw[yO];exact Zz h ls.length (bJ _)
 have hT:=Fu h.qL;have au:∀x∈(aB ls).map (Bv ls),x<((aB ls).map (Bv ls)).length:=by intro x hx;obtain⟨j,hj,rfl⟩:=dp.1 hx;obtain⟨l,hl,hp⟩:=tu.1 hj;rw[Hb hl hp,cD,<- hT];exact Xw (h.eF l (aU hl) hp)
 obtain⟨cP,jk⟩:=aW.1 hk;have:=auf hs au k (by rw[cD];exact cP);rw[Dx,jk] at this;obtain⟨l,hl,hp⟩:=tu.1 (aU hk);exact⟨l,hl,hp,by rw[<- Hb hl hp];exact this⟩
theorem SN{ls:List Let}(h:B0 F ls){i:Nat}{l:Let}(hl:ls[i]?=some l)(hp:l.aG=true):(aB ls)[dC ls l]?=some i:=by have au:=Xw (h.eF l (aU hl) hp);rw[Fu h.qL] at au;obtain⟨j,hj⟩:=aM au;obtain⟨m,hm,vv,he⟩:=B9 h hj;rw[hj,h.inj j i m l hm hl vv hp he]
theorem Ij{ls:List Let}(h:B0 F ls){i:Nat}{l:Let}(hl:ls[i]?=some l)(hp:l.aG=true):(aB ls).idxOf i=dC ls l:=by have h1:=SN h hl hp;have h2:=adC (aU h1);obtain⟨m,hm,vv,he⟩:=B9 h h2;rw[hl] at hm;cases hm;exact he.symm
theorem ajG{ls:List Let}(h:B0 F ls):r9 ls (fJ ls (F+1)) ls.length=aB ls:=by
 apply xt
 .rw[Zx,Fu h.qL]
 intro k h1 h2;simp only[r9,Dx,K7];obtain⟨l,hl,hp,he⟩:=B9 h (my h2);generalize (aB ls)[k]=i at hl;unfold axP;have kr:=(aW.1 hl).1;have hf:(List.range ls.length).find? (sH ls k)=some i:=by
  refine Cp kr (fun j hj=>?_) ?_
  .cases hh:sH ls k j with
   |false=>rfl
   |true=>
    unfold sH at hh;split at hh
    .rename_i m hm;simp only[cN,dI] at hh;have:=h.inj j i m l hm hl hh.1 hp (by rw[hh.2,he]);omega
    cases hh
  rw[MO hl hp];simp[he]
 rw[hf];rfl
theorem QT{ls:List Let}(hr:kL ls=true){i:Nat}{l:Let}(hl:ls[i]?=some l)(hc:l.aC=true):fV ls ls.length l.id (!l.over)=some (fG ls i)/\fG ls i<ls.length:=by
 have Ns:=XZ ls;unfold kL at hr;simp only[cN,dI,jd,gA] at hr;obtain⟨⟨he,hx⟩,hlen⟩:=hr;obtain⟨hid,hp⟩:=Hx.1 hx;have hle:∀id∈eU ls ls.length,aw (lf id) ls<=2:=fun id _=>by rw[Qu id];have:=A1 hp id true;have:=A1 hp id false;omega
 have h2:=Zl _ hle (by rw[Ns,hlen];omega) l.id (Ql (aU hl) hc);have e1:=WI l.id l.over ls;have b1:=A1 hp l.id l.over;have b2:=A1 hp l.id (!l.over);obtain⟨x,hx,yq⟩:=yN.1 (show 0<ls.countP (rI l.id (!l.over)) by show 0<aw (rI l.id (!l.over)) ls;omega);obtain⟨p,jl⟩:=je hx;obtain⟨x1,x2,x3⟩:=qh.1 yq;have hpn:=(aW.1 jl).1;have gD:p≠i:=by
  rintro rfl
  rw[hl] at jl;cases jl;revert x3;cases l.over<;>simp
 have uniq:∀(j:Nat) (m:Let),ls[j]?=some m->m.aC=true->m.id=l.id->j≠i->j=p:=by intro j m hj mc mi A4;refine Decidable.byContradiction fun aI=>?_;have o1:=(hp j i m l hj hl mc hc mi A4).1;have o2:=(hp j p m x hj jl mc x1 (by rw[mi,x2]) aI).1;rw[x3] at o2;revert o1 o2;cases m.over<;>cases l.over<;>simp
 have zH:(List.range ls.length).find? (Ac ls i)=some p:=by
  refine Cp hpn (fun j hj=>?_) ?_
  .cases hh:Ac ls i j with
   |false=>rfl
   |true=>
    unfold Ac at hh;simp only[cN,bne_iff_ne,ne_eq] at hh;obtain⟨h1,h2⟩:=hh;split at h2
    .rename_i m hm;simp only[cN,dI,hl,mz,mV] at h2;have:=uniq j m hm h2.1 h2.2 h1;omega
    cases h2
  unfold Ac;rw[jl];simp[gD,x1,hl,x2]
 have ho:fG ls i=p:=by unfold fG;rw[zH];rfl
 rw[ho];refine⟨?_,hpn⟩;unfold fV;refine Cp hpn (fun j hj=>?_) ?_
 .cases hh:qO ls l.id (!l.over) j with
  |false=>rfl
  |true=>
   obtain⟨m,hm,mc,mi,mo⟩:=A2 hh;have A4:j≠i:=by
    rintro rfl
    rw[hl] at hm;cases hm;revert mo;cases l.over<;>simp
   have:=uniq j m hm mc mi A4;omega
 rw[Jo jl];exact yq
end
end Go.Abs
