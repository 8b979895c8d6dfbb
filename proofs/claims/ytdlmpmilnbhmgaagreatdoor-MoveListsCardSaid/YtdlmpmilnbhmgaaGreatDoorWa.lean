/- A part. -/
import Derived.Test.YtdlmpmilnbhmgaaGreatDoorSa
set_option linter.all false
open List renaming length->I
set_option maxRecDepth 100000
set_option maxHeartbeats 16000000
namespace Go.Abs
variable{x n g m z v:Nat}{f:Int}{j:bD}{Q:fp}
structure af where
 kind:Int
 gate:Int
 aK:Int
 id:Int
 sign:Int
 over:Bool
 deriving DecidableEq
abbrev aI:=List af
variable{h:aI}
def af.ps(l:af):c_:=[.int .i64 l.kind,.int .i64 l.gate,.int .i64 l.aK,.int .i64 l.id,.int .i64 l.sign,.bool l.over]
def af.aN(l:af):Bool:=l.kind==1
def af.aJ(l:af):Bool:=l.kind==2
abbrev jF(ls:aI):PV:=.sl (ls.map af.ps)
abbrev dQ(f:Int)(ls:aI):V:=.agg [.p (.int .i64 f),.p (jF ls)]
abbrev mw(f:Int)(ls:aI):dk:=[.p (.int .i64 f),.p (jF ls)]
abbrev aq(k:Int):V:=.one (.p (.int .i64 k))
abbrev kN(b:Bool):V:=.one (.p (.bool b))
abbrev fy(k:Int):RV:=.one (.p (.int .i64 k))
abbrev bK(k:Bool):RV:=.one (.p (.bool k))
abbrev aF(p:af->Bool)(ls:aI):Nat:=ls.countP p
def bq{α:Type}{h:List α}{k:Nat}(H:k<I h):∃l,h[k]?=some l:=⟨h[k],by simp[H]⟩
def pK{p:af->Bool}{k:Nat}{l:af}(f:h[k]?=some l)(hp:p l):aF p (h.take (k+1))=aF p (h.take k)+1:=by unfold aF;obtain⟨H,rfl⟩:=ct.1 f;rw[Ua H,Hq,List.countP_singleton,aM hp]
def jf{p:af->Bool}{k:Nat}{l:af}(f:h[k]?=some l)(hp:p l=false):aF p (h.take (k+1))=aF p (h.take k):=by unfold aF;obtain⟨H,rfl⟩:=ct.1 f;rw[Ua H,Hq,List.countP_singleton,hp];rfl
def uv(p:af->Bool)(h:aI)(k:Nat):aF p (h.take k)<=k:=jO Fu (by rw[iU];exact Nat.min_le_left _ _)
def ld(p:af->Bool)(h:aI):aF p h<=I h:=Fu
def iF{k:Nat}{l:af}(H:h[k]?=some l):(h.map af.ps)[k]?=some l.ps:=by simp[H]
def oo{a b:Nat}(h:a+b<=9223372036854775807):IntKind.i64.wrap ((a:Int)+(b:Int))=((a+b:Nat):Int):=wrap_small (n:=a+b) h
def lR{a:Nat}(h:2*a<=9223372036854775807):IntKind.i64.wrap (2*(a:Int))=((2*a:Nat):Int):=wrap_small (n:=2*a) h
def KM{a b:Nat}(h:b<=a)(H:a<=9223372036854775807):IntKind.i64.wrap ((a:Int)-(b:Int))=((a-b:Nat):Int):=by have:((a:Int)-(b:Int))=((a-b:Nat):Int):=J;rw[this];exact wrap_small J
def wO{a:Nat}(h:1<=a)(H:a<=9223372036854775807):IntKind.i64.wrap ((a:Int)-1)=((a-1:Nat):Int):=KM (b:=1) h H
def TN(x y:Option (c_×aA))(f:Nat):Option (PV×aA):=match x,y with
 |some (x,r),some (y,s)=>some (.fn f x y,r++s)
 |_,_=>none
def afX{x y:c_}{r s:aA}{f:Nat}:TN (some (x,r)) (some (y,s)) f=some (.fn f x y,r++s):=rfl
def ajU{blk:aB}{f:Nat}{a b:dk}:snap blk dS (.hfn f a b)=TN (fk (snap blk 5) a) (fk (snap blk 5) b) f:=by unfold dS;rw[snap];unfold TN;rfl
def aqH{blk:aB}{id:Nat}:snap blk (n+1) (.bg id g m)=JJ (blk id) (fk (snap blk n)) id g m:=by rw[snap];rfl
def af1{blk:aB}{id len:Nat}:snap blk (n+1) (.hsl id g z m len)=MV (blk id) (fk (fk (snap blk n))) id g m len:=by rw[snap];rfl
def aw{b:Bool}(h:b:=by kernel_rfl):b:=h
def bG{f:Nat}{fn:aU}{A:c7}{r:RV}(H:S.fns f=some fn)(h:W S .all fn.body (nk .all fn.results λv blk=>hJ blk v=some r) (oh A) vQ)(hp:S.prim f A=none:=by rfl)(hl:I A<=fn.ntmps:=by exact gU rfl):aC S f A r:=ahV hp H hl h
def de:¬((2:Int)=0):=U
def n_(a b:Nat):(a:Int).tmod b=((a%b:Nat):Int):=by rw[Int.tmod_eq_emod_of_nonneg J];rfl
def hD(a:Nat):(a:Int).tmod 2=((a%2:Nat):Int):=n_ a 2
def dZ(a:Nat):(a:Int).tdiv 2=((a/2:Nat):Int):=by rw[Og J];rfl
def dF:¬((n:Int)<(n:Int)):=J
def cW(l:af):I l.ps=6:=rfl
def aoL{blk:aB}{all:aA}:pT blk all []=some []:=rfl
attribute [go_sem] ajU afX aqH af1 aoL
def jh(g:Int)(l:af):Bool:=l.aN&&l.gate==g
def kR(g:Int)(l:af):Bool:=l.aJ&&l.id==g
def N8(f:Int)(h:aI)(hl:I h<=1000000):aC S 40 [dQ f h] (fy (aF af.aN h)):=by
 refine bG aez ?_;simp only[go_sem,acI,ae,ao];refine cD (λk j _=>j 7=.one (.p (jF h))/\j 8=aq (I h)/\j 9=aq k/\j 3=aq (aF af.aN (h.take k))) 0 (I h) (bC _) ?_ ?_
 .simp only[go_sem];exact⟨rfl,rfl⟩
 rintro k j blk D ⟨y,g,m,H⟩
 by_cases A:k<I h
 .obtain⟨l,q⟩:=bq A;have v:=iF q;have x:((k:Int)<(I h:Int)):=J;have B:=uv (af.aN) h k;have u:=bJ (n:=k) J;have z:=bJ (n:=aF (af.aN) (h.take k)) J;cases hp:(l.kind==1)with
  |true=>have r:=pK (p:=af.aN) q hp;simp only[go_sem,Ki,H,y,g,m,v,cW,af.ps,x,u,z,hp,r,ae,ao];first|exact A|exact⟨A,rfl⟩
  |false=>have r:=jf (p:=af.aN) q hp;simp only[go_sem,Ki,H,y,g,m,v,cW,af.ps,x,u,z,hp,r,ae,ao];first|exact A|exact⟨A,rfl⟩
 have:k=I h:=J;subst this;rw[iV]at H;simp only[go_sem,Ki,abC,H,g,m,dF,ae,ao]
def Tv(f:Int)(h:aI)(hl:I h<=1000000):aC S 62 [dQ f h] (fy (aF af.aJ h)):=by
 refine bG alA ?_;simp only[go_sem,acF,ae,ao];refine cD (λk j _=>j 7=.one (.p (jF h))/\j 8=aq (I h)/\j 9=aq k/\j 3=aq (aF af.aJ (h.take k))) 0 (I h) (bC _) ?_ ?_
 .simp only[go_sem];exact⟨rfl,rfl⟩
 rintro k j blk D ⟨y,g,m,H⟩
 by_cases A:k<I h
 .obtain⟨l,q⟩:=bq A;have v:=iF q;have x:((k:Int)<(I h:Int)):=J;have B:=uv (af.aJ) h k;have u:=bJ (n:=k) J;have z:=bJ (n:=aF (af.aJ) (h.take k)) J;cases hp:(l.kind==2)with
  |true=>have r:=pK (p:=af.aJ) q hp;simp only[go_sem,IX,H,y,g,m,v,cW,af.ps,x,u,z,hp,r,ae,ao];first|exact A|exact⟨A,rfl⟩
  |false=>have r:=jf (p:=af.aJ) q hp;simp only[go_sem,IX,H,y,g,m,v,cW,af.ps,x,u,z,hp,r,ae,ao];first|exact A|exact⟨A,rfl⟩
 have:k=I h:=J;subst this;rw[iV]at H;simp only[go_sem,IX,abh,H,g,m,dF,ae,ao]
def ab0(f:Int)(h:aI)(hl:I h<=1000000):aC S 41 [dQ f h] (fy ((aF af.aJ h/2:Nat))):=by
 have H:=ld af.aJ h;have E:IntKind.i64.wrap ((aF af.aJ h:Int).tdiv 2)=((aF af.aJ h/2:Nat):Int):=by
  have:(aF af.aJ h:Int).tdiv 2=((aF af.aJ h/2:Nat):Int):=by rw[Og J];omega
  rw[this];exact wrap_small J
 refine bG afx ?_;simp only[go_sem,ZN,yU,dj (Tv f h hl),E,(by decide:¬(2:Int)=0),ae,ao]
def Wx(f:Int)(h:aI)(hl:I h<=1000000):aC S 21 [dQ f h] (fy (aF af.aN h)):=by
 refine bG aiE ?_;simp only[go_sem,acz,ae,ao];refine cD (λk j blk=>j 1=.one (.bg 1344000000 1 0)/\blk 1344000000=(1,some (.var (mw f h)))/\j 4=aq k/\j 3=aq (aF af.aN (h.take k))) 0 (I h) (bC _) ?_ ?_
 .simp only[go_sem];first|exact⟨rfl,rfl⟩|exact⟨rfl,rfl,rfl⟩
 rintro k j blk z ⟨B,H,g,F⟩
 by_cases A:k<I h
 .obtain⟨l,m⟩:=bq A;have u:=iF m;have v:((k:Int)<(I h:Int)):=J;have y:=uv (af.aN) h k;have r:=bJ (n:=k) J;have x:=bJ (n:=aF (af.aN) (h.take k)) J;cases hp:(l.kind==1)with
  |true=>have q:=pK (p:=af.aN) m hp;simp only[go_sem,Jz,B,H,g,F,u,cW,af.ps,v,r,x,hp,q,ae,ao];first|exact A|exact⟨A,rfl⟩
  |false=>have q:=jf (p:=af.aN) m hp;simp only[go_sem,Jz,B,H,g,F,u,cW,af.ps,v,r,x,hp,q,ae,ao];first|exact A|exact⟨A,rfl⟩
 have:k=I h:=J;subst this;rw[iV]at F;simp only[go_sem,Jz,acB,B,H,g,F,dF,ae,ao]
def T2(f:Int)(h:aI)(hl:I h<=1000000):aC S 20 [dQ f h] (fy (aF af.aJ h)):=by
 refine bG aoS ?_;simp only[go_sem,i20,ae,ao];refine cD (λk j blk=>j 1=.one (.bg 1280000000 1 0)/\blk 1280000000=(1,some (.var (mw f h)))/\j 4=aq k/\j 3=aq (aF af.aJ (h.take k))) 0 (I h) (bC _) ?_ ?_
 .simp only[go_sem];first|exact⟨rfl,rfl⟩|exact⟨rfl,rfl,rfl⟩
 rintro k j blk z ⟨B,H,g,F⟩
 by_cases A:k<I h
 .obtain⟨l,m⟩:=bq A;have u:=iF m;have v:((k:Int)<(I h:Int)):=J;have y:=uv (af.aJ) h k;have r:=bJ (n:=k) J;have x:=bJ (n:=aF (af.aJ) (h.take k)) J;cases hp:(l.kind==2)with
  |true=>have q:=pK (p:=af.aJ) m hp;simp only[go_sem,Jk,B,H,g,F,u,cW,af.ps,v,r,x,hp,q,ae,ao];first|exact A|exact⟨A,rfl⟩
  |false=>have q:=jf (p:=af.aJ) m hp;simp only[go_sem,Jk,B,H,g,F,u,cW,af.ps,v,r,x,hp,q,ae,ao];first|exact A|exact⟨A,rfl⟩
 have:k=I h:=J;subst this;rw[iV]at F;simp only[go_sem,Jk,XS,B,H,g,F,dF,ae,ao]
def Sy(f:Int)(h:aI)(hl:I h<=1000000):aC S 24 [dQ f h] (fy ((aF af.aJ h/2:Nat))):=by
 have H:=ld af.aJ h;have E:IntKind.i64.wrap ((aF af.aJ h:Int).tdiv 2)=((aF af.aJ h/2:Nat):Int):=by
  have:(aF af.aJ h:Int).tdiv 2=((aF af.aJ h/2:Nat):Int):=by rw[Og J];omega
  rw[this];exact wrap_small J
 refine bG ai1 ?_;simp only[go_sem,Wc,je,dj (T2 f h hl),E,(by decide:¬(2:Int)=0),ae,ao]
def RI(f:Int)(h:aI)(hl:I h<=1000000)(g:Int):aC S 44 [dQ f h,aq g] (fy (aF (jh g) h)):=by
 refine bG an2 ?_;simp only[go_sem,adJ,ae,ao];refine cD (λk j blk=>j 2=.one (.bg 2816000000 1 0)/\blk 2816000000=(1,some (.var (mw f h)))/\j 6=aq k/\j 5=aq (aF (jh g) (h.take k))/\j 1=aq g) 0 (I h) (bC _) ?_ ?_
 .simp only[go_sem];first|exact⟨rfl,rfl⟩|exact⟨rfl,rfl,rfl⟩
 rintro k j blk L ⟨B,r,m,F,z⟩
 by_cases A:k<I h
 .obtain⟨l,u⟩:=bq A;have x:=iF u;have y:((k:Int)<(I h:Int)):=J;have E:=uv ((jh g)) h k;have v:=bJ (n:=k) J;have D:=bJ (n:=aF ((jh g)) (h.take k)) J;cases hp:(l.kind==1)with
  |true=>
   cases q:(l.gate==g)with
   |true=>have H:=pK (p:=(jh g)) u (by simp only[jh,af.aN,hp,q];rfl);simp only[go_sem,E3,B,r,m,F,x,cW,af.ps,y,v,D,z,hp,q,H,ae,ao];first|exact A|exact⟨A,rfl⟩
   |false=>have H:=jf (p:=(jh g)) u (by simp only[jh,af.aN,hp,q];rfl);simp only[go_sem,E3,B,r,m,F,x,cW,af.ps,y,v,D,z,hp,q,H,ae,ao];first|exact A|exact⟨A,rfl⟩
  |false=>have H:=jf (p:=(jh g)) u (by simp only[jh,af.aN,hp];rfl);simp only[go_sem,E3,B,r,m,F,x,cW,af.ps,y,v,D,z,hp,H,ae,ao];first|exact A|exact⟨A,rfl⟩
 have:k=I h:=J;subst this;rw[iV]at F;simp only[go_sem,E3,X_,B,r,m,F,dF,ae,ao]
def afn(f:Int)(h:aI)(hl:I h<=1000000)(g:Int):aC S 45 [dQ f h,aq g] (fy (aF (kR g) h)):=by
 refine bG al9 ?_;simp only[go_sem,abn,ae,ao];refine cD (λk j blk=>j 2=.one (.bg 2880000000 1 0)/\blk 2880000000=(1,some (.var (mw f h)))/\j 6=aq k/\j 5=aq (aF (kR g) (h.take k))/\j 1=aq g) 0 (I h) (bC _) ?_ ?_
 .simp only[go_sem];first|exact⟨rfl,rfl⟩|exact⟨rfl,rfl,rfl⟩
 rintro k j blk L ⟨B,r,m,F,z⟩
 by_cases A:k<I h
 .obtain⟨l,u⟩:=bq A;have x:=iF u;have y:((k:Int)<(I h:Int)):=J;have E:=uv ((kR g)) h k;have v:=bJ (n:=k) J;have D:=bJ (n:=aF ((kR g)) (h.take k)) J;cases hp:(l.kind==2)with
  |true=>
   cases q:(l.id==g)with
   |true=>have H:=pK (p:=(kR g)) u (by simp only[kR,af.aJ,hp,q];rfl);simp only[go_sem,Gf,B,r,m,F,x,cW,af.ps,y,v,D,z,hp,q,H,ae,ao];first|exact A|exact⟨A,rfl⟩
   |false=>have H:=jf (p:=(kR g)) u (by simp only[kR,af.aJ,hp,q];rfl);simp only[go_sem,Gf,B,r,m,F,x,cW,af.ps,y,v,D,z,hp,q,H,ae,ao];first|exact A|exact⟨A,rfl⟩
  |false=>have H:=jf (p:=(kR g)) u (by simp only[kR,af.aJ,hp];rfl);simp only[go_sem,Gf,B,r,m,F,x,cW,af.ps,y,v,D,z,hp,H,ae,ao];first|exact A|exact⟨A,rfl⟩
 have:k=I h:=J;subst this;rw[iV]at F;simp only[go_sem,Gf,WU,B,r,m,F,dF,ae,ao]
def dP (h:aI)(i:Nat):Bool:=aF af.aN (h.take i)%2==0
def Jo(f:Int)(h:aI)(i:Nat)(hl:I h<=1000000)(M:i<=I h):aC S 70 [dQ f h,aq i] (bK (dP h i)):=by
 refine bG aiq ?_;simp only[go_sem,XH,ae,ao];refine cD (λk j blk=>j 1=aq i/\j 2=.one (.bg 4480000000 1 0)/\blk 4480000000=(1,some (.var (mw f h)))/\j 6=aq k/\j 5=aq (aF af.aN (h.take k))) 0 i (bC _) ?_ ?_
 .simp only[go_sem];exact⟨rfl,rfl⟩
 rintro k j blk L ⟨H,B,q,g,F⟩
 have D:=uv af.aN h k;by_cases y:k<i
 .obtain⟨l,m⟩:=bq (h:=h) (k:=k) J;have v:=iF m;have A:((k:Int)<(i:Int)):=J;have u:=bJ (n:=k) J;have x:=bJ (n:=aF af.aN (h.take k)) J;cases hp:(l.kind==1)with
  |true=>have r:=pK (p:=af.aN) m hp;simp only[go_sem,Kz,H,B,q,g,F,v,cW,af.ps,A,u,x,hp,r,ae,ao];exact y
  |false=>have r:=jf (p:=af.aN) m hp;simp only[go_sem,Kz,H,B,q,g,F,v,cW,af.ps,A,u,x,hp,r,ae,ao];exact y
 have:k=i:=J;subst this;have E:((((aF af.aN (h.take k))%2:Nat):Int)==0)=dP h k:=by
  unfold dP;cases z:(aF af.aN (h.take k)%2==0)with
  |true=>simp at z |-;omega
  |false=>simp at z |-;omega
 simp only[go_sem,Kz,aa4,H,B,q,g,F,dF,de,hD,E,ae,ao]
def aoA(a b:af):aC S 68 [.agg (a.ps.map .p),.agg (b.ps.map .p)] (bK (decide (a.gate<b.gate)||(a.gate==b.gate&&decide (a.aK<b.aK)))):=by
 refine bG aiS ?_;by_cases h:a.gate<b.gate
 .simp only[go_sem,MC,af.ps,h,ae,ao]
 cases H:(a.gate==b.gate)with
 |true=>simp only[go_sem,MC,af.ps,h,H,ae,ao]
 |false=>simp only[go_sem,MC,af.ps,h,H,ae,ao]
def jX(n i:Nat)(f:Bool):Nat:=if f then 2*i else 2*((i+n-1)%n)+1
def Q1(f:Int)(h:aI)(i:Nat)(F:Bool)(hl:I h<=1000000)(u:i<I h):aC S 69 [dQ f h,aq i,kN F] (fy (jX (I h) i F)):=by
 refine bG apZ ?_;cases F with
 |true=>have e:IntKind.i64.wrap (2*(i:Int))=((2*i:Nat):Int):=wrap_small (n:=2*i) J;simp only[go_sem,Od,e,jX,ae,ao]
 |false=>
  have g:IntKind.i64.wrap ((i:Int)+(I h:Int))=((i+I h:Nat):Int):=wrap_small (n:=i+I h) J;have q:IntKind.i64.wrap (((i+I h:Nat):Int)-1)=((i+I h-1:Nat):Int):=by have:(((i+I h:Nat):Int)-1)=((i+I h-1:Nat):Int):=J;rw[this];exact wrap_small J
  have E:=n_ (i+I h-1) (I h);have r:=fO (i+I h-1) (show 0<I h by omega);have m:IntKind.i64.wrap (2*(((i+I h-1)%I h:Nat):Int))=((2*((i+I h-1)%I h):Nat):Int):=wrap_small (n:=2*((i+I h-1)%I h)) J;have j:=bJ (n:=2*((i+I h-1)%I h)) J;have H:¬((I h:Int)=0):=J;simp only[go_sem,Od,g,q,E,m,j,H,jX,ae,ao]
def uS(h:aI)(i j:Nat):Bool:=j !=i&&(match h[j]? with|some l=>l.aJ&&l.id==((h[i]?).map af.id).getD 0|none=>false)
def jY(h:aI)(i:Nat):Nat:=((List.range (I h)).find? (uS h i)).getD i
def wR{p:Nat->Bool}:∀ {n k:Nat},k<n->(∀j,j<k->p j=false)->p k->(List.range n).find? p=some k:=by intro n k h f hp;exact List.find?_range_eq_some.2 ⟨hp,by simpa using h,λj H=>by simp[f j H]⟩
def Ek{p:Nat->Bool}(H:∀j,j<n->p j=false):(List.range n).find? p=none:=by rw[zf];intro x h;simp[H x (by simpa using h)]
def akj(f:Int)(h:aI)(i:Nat)(hl:I h<=1000000)(Z:i<I h):aC S 71 [dQ f h,aq i] (fy (jY h i)):=by
 obtain⟨Q,R⟩:=bq Z;have F:=iF R;have L:∀g l,h[g]?=some l->uS h i g=(g !=i&&(l.aJ&&l.id==Q.id)):=λg l T=>by simp[uS,T,R]
 refine bG aeh ?_;simp only[go_sem,WX,ae,ao];refine cD (λk j blk=>j 1=aq i/\j 2=.one (.bg 4544000000 1 0)/\blk 4544000000=(1,some (.var (mw f h)))/\j 5=aq k/\ ∀g,g<k->uS h i g=false) 0 (I h) (bC _) ?_ ?_
 .simp only[go_sem];exact⟨rfl,λg T=>absurd T (l_ g)⟩
 rintro k j blk hk ⟨r,B,u,m,N⟩
 by_cases A:k<I h
 .obtain⟨l,O⟩:=bq A;have z:=iF O;have x:((k:Int)<(I h:Int)):=J;have v:=bJ (n:=k) J;have D:=L k l O;have step:uS h i k=false->∀g,g<k+1->uS h i g=false:=λT g Y=>by
   rcases jG.1 Y with X|rfl
   .exact N g X
   exact T
  by_cases H:k=i
  .have q:((k:Int)!=(i:Int))=false:=by simp[H]
   have aa:=step (by rw[D];simp[H]);simp only[go_sem,Cq,r,B,u,m,z,x,v,q,ae,ao];exact⟨ah,A,aa⟩
  have q:((k:Int)!=(i:Int)):=by simp;omega
  have E:(k !=i):=by simp[H]
  cases hp:(l.kind==2)with
  |false=>have aa:=step (by rw[D,E,af.aJ,hp];rfl);simp only[go_sem,Cq,r,B,u,m,z,F,cW,af.ps,x,v,q,hp,ae,ao];exact⟨ah,A,aa⟩
  |true=>
   cases y:(l.id==Q.id)with
   |false=>have aa:=step (by rw[D,E,af.aJ,hp,y];rfl);simp only[go_sem,Cq,r,B,u,m,z,F,cW,af.ps,x,v,q,hp,y,ae,ao];exact⟨ah,A,aa⟩
   |true=>
    have M:jY h i=k:=by unfold jY;rw[wR A N (by rw[D,E,af.aJ,hp,y];rfl)];rfl
    simp only[go_sem,Cq,r,B,u,m,z,F,cW,af.ps,x,v,q,hp,y,M,ae,ao];show o7 _ _ _=true
    kernel_rfl
 have:k=I h:=J;subst this;have M:jY h i=i:=by unfold jY;rw[Ek N];rfl
 simp only[go_sem,Cq,Zw,r,B,u,m,dF,M,ae,ao]
abbrev pj(l:aA):PV:=.sl (l.map λn:Nat=>[.int .i64 (n:Int)])
def an8(l:aA)(n f:Nat)(hl:I l<=1000000)(g:l[f]?=some n)(B:∀E,E<f->l[E]? ≠some n):aC S 72 [.one (.p (pj l)),aq n] (fy f):=by
 have q:=(ct.1 g).1;refine bG agi ?_;simp only[go_sem,ab6,ae,ao];refine cD (λk j blk=>j 0=.one (.p (pj l))/\j 1=aq n/\j 5=aq k) 0 f (bC _) ?_ ?_
 .simp only[go_sem];rfl
 rintro k j blk F ⟨u,x,y⟩
 have A:((k:Int)<(I l:Int)):=J;have r:=bJ (n:=k) J;obtain⟨m,H⟩:=bq (h:=l) (k:=k) J;have v:(l.map λn:Nat=>[PV.int .i64 (n:Int)])[k]?=some [.int .i64 (m:Int)]:=by simp[H]
 by_cases z:k<f
 .have D:((m:Int)==(n:Int))=false:=by
   have:m≠n:=λe=>B k z (by rw[H,e]);simp;omega
  simp only[go_sem,Oh,u,x,y,A,r,v,D,ae,ao];exact z
 have:k=f:=J;subst this;have e:m=n:=by rw[H]at g;exact xH g
 subst e;simp only[go_sem,Oh,u,x,y,A,r,v,ae,ao]
abbrev xA(l:af):V:=.agg [.p (.int .i64 l.kind),.p (.int .i64 l.gate),.p (.int .i64 l.aK),.p (.int .i64 l.id),.p (.int .i64 l.sign),.p (.bool l.over)]
def yF(a b:af):Bool:=decide (a.gate<b.gate)||(a.gate==b.gate&&decide (a.aK<b.aK))
def apR(a b:af):aC S 68 [xA a,xA b] (bK (yF a b)):=aoA a b
abbrev aS(o:aA):dC:=o.map λn:Nat=>[PV.int .i64 (n:Int)]
def fC{o:aA}{k:Nat}(h:o[k]?=some n):(aS o)[k]?=some [.int .i64 (n:Int)]:=by simp[h]
def wb(h:aI)(i j:Nat):Bool:=match h[j]?,h[i]? with
 |some a,some b=>yF a b
 |_,_=>false
def uw(h:aI)(o:aA)(i:Nat):aA:=o.take (I (o.takeWhile (wb h i)))++i::o.drop (I (o.takeWhile (wb h i)))
def vp(h:aI)(o:aA)(i:Nat):aA:=match h[i]? with
 |some l=>if l.aN then uw h o i else o
 |none=>o
def aH(h:aI):aA:=(List.range (I h)).foldl (vp h) []
def mr(h:aI)(k:Nat):aA:=(List.range k).foldl (vp h) []
def DU(h:aI)(k:Nat):mr h (k+1)=vp h (mr h k) k:=by unfold mr;rw[j0,yq];rfl
def asb{o:aA}{i:Nat}(H:x∈vp h o i):x∈o\/x=i:=by
 unfold vp at H;split at H
 .split at H
  .unfold uw at H;rcases fB.1 H with H|H
   .exact .inl (qM H)
   rcases dL.1 H with H|H
   .exact .inr H
   exact .inl (rj H)
  exact .inl H
 exact .inl H
def JR:∀ {k x:Nat},x∈mr h k->x<k:=by
 intro k
 induction k with
 |zero=>intro x H;simp[mr]at H
 |succ k f=>
  intro x H;rw[DU]at H;rcases asb H with H|H
  .have:=f H;omega
  omega
def mv(h:aI):∀k,I (mr h k)<=k:=by
 intro k
 induction k with
 |zero=>simp[mr]
 |succ k f=>
  rw[DU];unfold vp;split
  .split
   .unfold uw;simp only[ep,dE,iU,BO];omega
   omega
  omega
def zI(f:Nat)(o:aA)(v:V)(blk:aB):Prop:=(o=[]/\v=.one (.p .nils))\/(o≠[]/\ ∃g,v=.one (.hsl f g 1 0 (I o))/\blk f=(g,some (.arr 3 1 (aS o))))
def anr{o:aA}{i bN:Nat}{blk:aB}(F:zI 2944576640 o (j 3) blk)(z:j 4=aq i)(E:j 5=aq bN)(M:bN<=I o)(hl:I o<=1000000)
  (x:∀A q,A 1=j 1->A 4=j 4->q 2944000000=blk 2944000000->zI 2944576640 (o.take bN++i::o.drop bN) (A 3) q->Q .normal A q):
  W S .all Cj Q j blk:=by
 rcases F with⟨rfl,H⟩|⟨F,g,H,L⟩
 .have h:bN=0:=by simpa using M
  subst h;simp only[go_sem,Cj,H,z,E,ae,ao];refine⟨ah,x _ _ ?_ ?_ ?_ (.inr ⟨aG,(blk 2944576640).1+1,?_,?_⟩)⟩;all_goals simp only[go_sem]
 have f:∀n:Nat,n<=1000001->n*8<=140737488355328:=λn T=>J;by_cases h:bN=0
 .subst h;have m:List.take (I o) (aS o)=aS o:=eW aG;have D:=f (1+I o) J;simp only[go_sem,Cj,H,z,E,L,m,D,ae,ao];refine⟨ah,x _ _ ?_ ?_ ?_ (.inr ⟨aG,g+1,?_,?_⟩)⟩;all_goals simp only[go_sem]
  simp;omega
 have m:I (List.take bN (aS o))=bN:=by simp;omega
 have r:List.take bN (List.take bN (aS o))=List.take bN (aS o):=by rw[D8,Nat.min_self]
 have N:List.take (bN+1) (List.take bN (aS o)++[[PV.int .i64 (i:Int)]])=List.take bN (aS o)++[[PV.int .i64 (i:Int)]]:=eW (by simp;omega);have y:List.take (I o-bN) (List.drop bN (aS o))=List.drop bN (aS o):=eW aG;have v:I (List.drop bN (aS o))=I o-bN:=aG;have R:I (List.take bN (aS o)++[[PV.int .i64 (i:Int)]])=bN+1:=by simp;omega
 have D:=f bN J;have O:=f (bN+1) J;have u:=f (bN+1+(I o-bN)) J;have B:bN+(I o-bN)<=I o:=J;simp only[go_sem,Cj,H,z,E,L,M,m,h,D,O,u,r,N,y,v,R,B,ae,ao];refine⟨ah,x _ _ ?_ ?_ ?_ (.inr ⟨aG,g+1,?_,?_⟩)⟩;all_goals simp only[go_sem]
 .simp;omega
 simp
def afG{α:Type}{p:α->Bool}{l:List α}{bN:Nat}(f:bN<=I l)(g:∀j x,j<bN->l[j]?=some x->p x)(H:∀x,l[bN]?=some x->p x=false):I (l.takeWhile p)=bN:=by
 induction l generalizing bN with
 |nil=>simp at f |-;omega
 |cons a l m=>
  cases bN with
  |zero=>have:=H a rfl;simp[List.takeWhile,this]
  |succ bN=>have:=g 0 a J rfl;simp only[List.takeWhile,this,dE];rw[m (by simpa using f) (λj x n h=>g (j+1) x J (by simpa using h)) (λx h=>H x (by simpa using h))]
def arB{o:aA}{i:Nat}{N:af}{blk:aB}(D:zI 2944576640 o (j 3) blk)(Y:j 1=.one (.bg 2944000000 1 0))(hB:blk 2944000000=(1,some (.var (mw f h))))(X:j 4=aq i)(h5:j 5=aq 0)
  (r4:h[i]?=some N) (au:∀x∈o,x<I h) (hl:I o<=1000000)
  (hq:∀A u,A 1=j 1->A 4=j 4->u 2944000000=blk 2944000000->zI 2944576640 (uw h o i) (A 3) u->Q .normal A u):
  W S .all (.loop Ef) (kZ 2 (qm S .all Cj Q)) j blk:=by
 have fE:=iF r4;refine cD (λk A u=>A 1=j 1/\A 4=j 4/\A 3=j 3/\u=blk/\A 5=aq k/\ ∀Z x,Z<k->o[Z]?=some x->wb h i x) 0 (I o) (bC _) ?_ ?_
 .exact⟨rfl,rfl,rfl,rfl,h5,λZ x E=>absurd E (l_ Z)⟩
 rintro k A u hk ⟨m,T,q,rfl,r,hp⟩
 rw[Y]at m;rw[X]at T;have fin:∀e:bD,e 1=A 1->e 4=A 4->e 3=A 3->e 5=A 5->(∀x,o[k]?=some x->wb h i x=false)->W S .all Cj Q e u:=by
  intro e e1 e4 e3 e5 py;have hK:=afG hk hp py;have jP:zI 2944576640 o (e 3) u:=by rw[e3,q];exact D
  refine anr (i:=i) (bN:=k) jP (by rw[e4,T]) (by rw[e5,r]) hk hl ?_;intro cF aV q1 q2 q3 q4;refine hq cF aV (by rw[q1,e1,m,Y]) (by rw[q2,e4,T,X]) q3 ?_;unfold uw;rw[hK];exact q4
 by_cases L:k<I o
 .obtain⟨x,z⟩:=bq L;have qn:=au x (bY z);obtain⟨R,B⟩:=bq qn;have iK:=iF B;have wy:=fC z;have aL:((k:Int)<(I o:Int)):=J;have w1:=bJ (n:=k) J;have YF:wb h i x=yF R N:=by simp[wb,B,r4]
  have M:=apR R N;rcases D with⟨rfl,_⟩|⟨D,g,v,O⟩
  .simp at L
  rw[v]at q;cases F:yF R N with
  |true=>
   rw[F]at M;simp only[go_sem,Ef,Y,v,X,m,q,T,r,hB,O,aL,wy,iK,fE,cW,af.ps,L,w1,abB,cN M,ae,ao];refine⟨ah,λZ y E H=>?_⟩;rcases jG.1 E with E|rfl
   .exact hp Z y E H
   rw[z]at H;cases H;rw[YF,F]
  |false=>rw[F]at M;simp only[go_sem,Ef,m,q,T,r,hB,O,aL,wy,iK,fE,cW,af.ps,L,abB,cN M,ae,ao];refine⟨ah,fin _ ?_ ?_ ?_ ?_ (λy H=>by rw[z]at H;cases H;rw[YF,F])⟩;all_goals simp only[go_sem,m,q,T,r]
 have:k=I o:=J;subst this;have dh:∀x,o[I o]?=some x->wb h i x=false:=λx z=>by simp at z
 rcases D with⟨rfl,v⟩|⟨D,g,v,O⟩
 .rw[v]at q;simp only[go_sem,Ef,m,q,T,r,dF,ae,ao];refine⟨ah,fin _ ?_ ?_ ?_ ?_ dh⟩;all_goals simp only[go_sem,m,q,T,r]
 rw[v]at q;simp only[go_sem,Ef,m,q,T,r,dF,ae,ao];refine⟨ah,fin _ ?_ ?_ ?_ ?_ dh⟩;all_goals simp only[go_sem,m,q,T,r]
def ase(h:aI)(o:aA)(i:Nat):I (uw h o i)=I o+1:=by unfold uw;simp only[ep,dE,iU,BO];have:=(List.takeWhile_sublist (wb h i) (l:=o)).length_le;omega
def DN{blk:aB}{id len T:Nat}{E:dC}(h:blk id=(g,some (.arr T z E)))(hl:len=I E):hJ blk (.one (.hsl id g z 0 len))=some (.one (.own T z E)):=by subst hl;simp only[hJ,pn,lJ,kQ,iZ,h,cH,and_self,if_true,iV];rfl
def E9(o:aA):kj:=if o=[]then .p .nils else .own 3 1 (aS o)
def Xn(f:Int)(h:aI)(hl:I h<=1000000):aC S 46 [dQ f h] (.one (E9 (aH h))):=by
 refine bG aq0 ?_;simp only[go_sem,i46,ae,ao];refine cD (λk j blk=>j 1=.one (.bg 2944000000 1 0)/\blk 2944000000=(1,some (.var (mw f h)))/\j 4=aq k/\zI 2944576640 (mr h k) (j 3) blk) 0 (I h) (bC _) ?_ ?_
 .simp only[go_sem];exact⟨rfl,.inl ⟨rfl,rfl⟩⟩
 rintro k j blk T ⟨u,v,r,m⟩
 have Y:=mv h k;by_cases A:k<I h
 .obtain⟨l,y⟩:=bq A;have E:=iF y;have B:((k:Int)<(I h:Int)):=J;have z:=bJ (n:=k) J;have aa:=DU h k;unfold vp at aa;rw[y]at aa;cases hp:(l.kind==1)with
  |false=>
   have M:(l.kind !=1):=by simp[bne,hp]
   simp only[af.aN,hp]at aa;have aa:mr h (k+1)=mr h k:=aa;simp only[go_sem,G6,Q4,u,v,r,E,cW,af.ps,B,M,z,aa,A,ae,ao];rcases m with⟨e,H⟩|⟨m,g,H,q⟩
   .exact .inl ⟨e,by simp only[go_sem,H]⟩
   exact .inr ⟨m,g,by simp only[go_sem,H],by simp only[go_sem,q]⟩
  |true=>
   have M:(l.kind !=1)=false:=by simp[bne,hp]
   simp only[af.aN,hp]at aa;have aa:mr h (k+1)=uw h (mr h k) k:=aa;simp only[go_sem,G6,u,v,r,E,cW,af.ps,B,M,ae,ao];refine arB (h:=h) (f:=f) (o:=mr h k) (i:=k) ?_ ?_ ?_ ?_ ?_ y (λx N=>Nat.lt_trans (JR N) A) J ?_
   .rcases m with⟨e,H⟩|⟨m,g,H,q⟩
    .exact .inl ⟨e,by simp only[go_sem,H]⟩
    exact .inr ⟨m,g,by simp only[go_sem,H],by simp only[go_sem,q]⟩
   .simp only[go_sem,u]
   .simp only[go_sem,v]
   .simp only[go_sem,r]
   .rfl
   intro R X Q F D L;simp only[go_sem,u,r,v]at Q F D;simp only[go_sem,Q4,Q,F,D,z,aa,A];rcases L with⟨e,H⟩|⟨m,g,H,q⟩
   .exact .inl ⟨e,by simp only[go_sem,H]⟩
   exact .inr ⟨m,g,by simp only[go_sem,H],by simp only[go_sem,q]⟩
 have:k=I h:=J;subst this;have O:aH h=mr h (I h):=rfl;rw[<-O]at m;rcases m with⟨e,H⟩|⟨m,g,H,q⟩
 .simp only[go_sem,G6,Tg,u,v,H,r,dF,E9,e,ae,ao]
 simp only[go_sem,G6,Tg,u,v,H,r,dF,E9,m,ae,ao];exact DN q aG
def fz(h:aI)(ax:aA)(d:Nat):Nat:=
 if 2*I h<=d then
  if d%2=0 then jX (I h) (ax.getD (((d-2*I h)/2+1)%I ax) 0) (!dP h (ax.getD (((d-2*I h)/2+1)%I ax) 0))
  else jX (I h) (ax.getD ((d-2*I h)/2) 0) (dP h (ax.getD ((d-2*I h)/2) 0))
 else
  let f:=d%2==0
  let v:=if f then(d/2+1)%I h else d/2
  match h[v]? with
  |none=>0
  |some l=>if l.kind==2 then jX (I h) (jY h v) (f==(l.over==(l.sign==1)))
   else if dP h v==f then 2*I h+2*ax.idxOf v else 2*I h+2*((ax.idxOf v+I ax-1)%I ax)+1
def acf{i:Nat}(H:i<I h):jY h i<I h:=by
 unfold jY;cases f:(List.range (I h)).find? (uS h i)with
 |none=>exact H
 |some k=>
  have:=Er f
  simpa using this
def wK{i:Nat}{f:Bool}(h:i<n):jX n i f<2*n:=by unfold jX;have:=fO (i+n-1) (show 0<n by omega);split<;>omega
def JW{ax:aA}{d:Nat}(iD:∀x∈ax,x<I h)(hp:∀v l,h[v]?=some l->(l.kind==2)=false->v∈ax)(r:d<2*I h+2*I ax):fz h ax d<2*I h+2*I ax:=by
 have z:∀k,k<I ax->ax.getD k 0<I h:=λk H=>by obtain⟨x,j⟩:=bq H;rw[dT,j];exact iD x (bY j)
 unfold fz;by_cases q:2*I h<=d
 .rw[aM q];have m:=fO ((d-2*I h)/2+1) (show 0<I ax by omega);by_cases g:d%2=0
  .rw[aM g];exact vF (wK (z _ m)) J
  rw[aD g];exact vF (wK (z _ J)) J
 rw[aD q];have n:0<I h:=J;have f:(if(d%2==0)=true then(d/2+1)%I h else d/2)<I h:=by
  split
  .exact fO _ n
  omega
 simp only;generalize(if(d%2==0)=true then(d/2+1)%I h else d/2)=v at f;obtain⟨l,hl⟩:=bq f;rw[hl];simp only;by_cases H:(l.kind==2)
 .rw[aM H];exact vF (wK (acf f)) J
 rw[aD H];have O:=hp v l hl (by simpa using H);have u:ax.idxOf v<I ax:=UC.2 O;have m:=fO (ax.idxOf v+I ax-1) (show 0<I ax by omega);split<;>omega
def aik{ax:aA}:∀j,j<ax.idxOf v->ax[j]? ≠some v:=by
 induction ax with
 |nil=>intro j h;simp at h
 |cons a ax f=>
  intro j h e;rw[List.idxOf_cons]at h;by_cases H:a=v
  .simp[H]at h
  have g:(a==v)=false:=by simpa using H
  rw[g]at h;cases j with
  |zero=>simp at e;exact H e
  |succ j=>exact f j (by simp at h;omega) (by simpa using e)
def adW{ax:aA}(h:v∈ax):ax[ax.idxOf v]?=some v:=by have hl:ax.idxOf v<I ax:=UC.2 h;rw[oO hl,List.getElem_idxOf hl]
def asA(f:Int)(h:aI)(ax:aA)(d:Nat)(hl:I h<=1000000)(fQ:I ax<=1000000)(iD:∀x∈ax,x<I h)(hp:∀v l,h[v]?=some l->(l.kind==2)=false->v∈ax)
  (hd:d<2*I h+2*I ax):aC S 47 [dQ f h,.one (.p (pj ax)),aq d] (fy (fz h ax d)):=by
 have u:IntKind.i64.wrap (2*(I h:Int))=((2*I h:Nat):Int):=wrap_small (n:=2*I h) J;unfold fz;by_cases ab:2*I h<=d
 .rw[aM ab];refine bG ZP ?_;have q:((2*I h:Nat):Int)<=(d:Int):=J;have m2:IntKind.i64.wrap ((d:Int)-((2*I h:Nat):Int))=((d-2*I h:Nat):Int):=by
   have:((d:Int)-((2*I h:Nat):Int))=((d-2*I h:Nat):Int):=J;rw[this];exact wrap_small J
  have m:=wrap_small (n:=(d-2*I h)/2) J;have hm:=fO ((d-2*I h)/2+1) (show 0<I ax by omega);have X:¬((I ax:Int)=0):=J;by_cases h2:d%2=0
  .rw[aM h2];have z:=bJ (n:=(d-2*I h)/2) J;have gk:(((d%2:Nat):Int)==0):=by simp[h2]
   have M:=n_ ((d-2*I h)/2+1) (I ax);obtain⟨v,H⟩:=bq hm;have te:ax.getD (((d-2*I h)/2+1)%I ax) 0=v:=by rw[dT,H];rfl
   rw[te];have B:=iD v (bY H);have oq:=fC H;have g:=Jo f h v hl J;have y:=Q1 f h v (!dP h v) hl B;simp only[go_sem,xv,u,m2,m,z,M,q,gk,oq,X,hD,dZ,de,BZ,Mg,cN g,c4 y,ae,ao];exact aw
  rw[aD h2];have gk:(((d%2:Nat):Int)==0)=false:=by simp;omega
  obtain⟨v,H⟩:=bq (h:=ax) (k:=(d-2*I h)/2) J;have te:ax.getD ((d-2*I h)/2) 0=v:=by rw[dT,H];rfl
  rw[te];have B:=iD v (bY H);have oq:=fC H;have g:=Jo f h v hl J;have y:=Q1 f h v (dP h v) hl B;simp only[go_sem,xv,u,m2,m,q,gk,oq,X,hD,dZ,de,BZ,Mg,cN g,c4 y,ae,ao];exact aw
 rw[aD ab];have q:¬(((2*I h:Nat):Int)<=(d:Int)):=J;have m:=wrap_small (n:=d/2) J;have D:¬((I h:Int)=0):=J;have X:=fO (d/2+1) (show 0<I h by omega);have z:=bJ (n:=d/2) J;have M:=n_ (d/2+1) (I h);have body:∀v:Nat,v<I h->∀F:Bool,v=(if F then(d/2+1)%I h else d/2)->(d%2==0)=F->(((d%2:Nat):Int)==0)=F->aC S 47 [dQ f h,.one (.p (pj ax)),aq d] (fy ((match h[v]? with
   |none=>0
   |some l=>if l.kind==2 then jX (I h) (jY h v) (F==(l.over==(l.sign==1)))
    else if dP h v==F then 2*I h+2*ax.idxOf v else 2*I h+2*((ax.idxOf v+I ax-1)%I ax)+1:Nat):Int)):=by
  intro v H F E vd O;obtain⟨l,ly⟩:=bq H;have r:=iF ly;rw[ly];simp only;refine bG ZP ?_;cases A:(l.kind==2)with
  |true=>
   have T:=akj f h v hl H;have y:=Q1 f h (jY h v) (F==(l.over==(l.sign==1))) hl (acf H);cases F with
   |true=>have E:v=(d/2+1)%I h:=E;rw[E]at r T y |-;simp only[go_sem,xv,u,m,z,M,q,O,r,cW,af.ps,D,A,hD,dZ,de,adZ,Mg,c4 T,c4 y,ae,ao];exact aw
   |false=>have E:v=d/2:=E;rw[E]at r T y |-;simp only[go_sem,xv,u,m,z,M,q,O,r,cW,af.ps,D,A,hD,dZ,de,adZ,Mg,c4 T,c4 y,ae,ao];exact aw
  |false=>
   have o9:=hp v l ly A;have IE:ax.idxOf v<I ax:=UC.2 o9;have j:=an8 ax v (ax.idxOf v) fQ (adW o9) aik;have g:=Jo f h v hl J;have Z:¬((I ax:Int)=0):=J;have kE:=fO (ax.idxOf v+I ax-1) (show 0<I ax by omega);have n1:=lR (a:=ax.idxOf v) J;have n2:=oo (a:=2*I h) (b:=2*ax.idxOf v) J;have Q:=oo (a:=ax.idxOf v) (b:=I ax) J;have R:=wO (a:=ax.idxOf v+I ax) J J;have N:=n_ (ax.idxOf v+I ax-1) (I ax);have Y:=lR (a:=(ax.idxOf v+I ax-1)%I ax) J;have n7:=oo (a:=2*I h) (b:=2*((ax.idxOf v+I ax-1)%I ax)) J;have n8:=bJ (n:=2*I h+2*((ax.idxOf v+I ax-1)%I ax)) J;cases F with
   |true=>
    have E:v=(d/2+1)%I h:=E;cases L:dP h v with
    |true=>rw[L]at g;subst E;simp only[go_sem,xv,u,m,z,M,q,O,r,cW,af.ps,D,A,hD,dZ,de,I5,BZ,dj j,ai g,n1,n2,Q,R,N,Y,n7,n8,Z,ae,ao]
    |false=>rw[L]at g;subst E;simp only[go_sem,xv,u,m,z,M,q,O,r,cW,af.ps,D,A,hD,dZ,de,I5,BZ,dj j,ai g,n1,n2,Q,R,N,Y,n7,n8,Z,ae,ao]
   |false=>
    have E:v=d/2:=E;cases L:dP h v with
    |true=>rw[L]at g;subst E;simp only[go_sem,xv,u,m,z,M,q,O,r,cW,af.ps,D,A,hD,dZ,de,I5,BZ,dj j,ai g,n1,n2,Q,R,N,Y,n7,n8,Z,ae,ao]
    |false=>rw[L]at g;subst E;simp only[go_sem,xv,u,m,z,M,q,O,r,cW,af.ps,D,A,hD,dZ,de,I5,BZ,dj j,ai g,n1,n2,Q,R,N,Y,n7,n8,Z,ae,ao]
 have B:(if(d%2==0)=true then(d/2+1)%I h else d/2)<I h:=by
  split
  .exact X
  omega
 have:=body _ B (d%2==0) rfl rfl (by cases hq:(d%2==0)<;>simp at hq |- <;>omega);exact this
abbrev gE(o:eo):dC:=o.map λb:Bool=>[PV.bool b]
def qa{o:eo}{k:Nat}{b:Bool}(h:o[k]?=some b):(gE o)[k]?=some [.bool b]:=by simp[h]
def Dj(o:eo)(k:Nat)(b:Bool):(gE o).set k [.bool b]=gE (o.set k b):=by simp[tK]
def eZ(next:Nat->Nat):Nat->Nat->eo->aA×eo
 |0,_,seen=>([],seen)
 |k+1,x,seen=>if seen.getD x true then([],seen)else(x::(eZ next k (next x) (seen.set x true)).1,(eZ next k (next x) (seen.set x true)).2)
def tR(s:eo):Nat:=s.countP (λb=> !b)
def HW{s:eo}(h:s[x]?=some false):tR (s.set x true)+1=tR s:=by
 induction s generalizing x with
 |nil=>simp at h
 |cons b s f=>
  cases x with
  |zero=>simp at h;subst h;simp[tR]
  |succ x=>have:=f (x:=x) (by simpa using h);unfold tR at this |-;simp only[List.set_cons_succ,sO];omega
def aoY(next:Nat->Nat):∀(k x:Nat) (s:eo),(eZ next k x s).2.length=I s:=by
 intro k
 induction k with
 |zero=>intro x s;rfl
 |succ k f=>
  intro x s;unfold eZ;split
  .rfl
  simp[f]
def qX(next:Nat->Nat)(f:List aA×eo)(d:Nat):List aA×eo:=if f.2.getD d true then f else(f.1++[(eZ next (I f.2+1) d f.2).1],(eZ next (I f.2+1) d f.2).2)
def dN(next:Nat->Nat)(N k:Nat):List aA×eo:=(List.range k).foldl (qX next) ([],List.replicate N false)
def fW(next:Nat->Nat)(N:Nat):List aA:=(dN next N N).1
def s_(next:Nat->Nat)(N k:Nat):dN next N (k+1)=qX next (dN next N k) k:=by unfold dN;rw[j0,yq];rfl
def Ce(next:Nat->Nat)(N:Nat):∀k,(dN next N k).2.length=N:=by
 intro k
 induction k with
 |zero=>simp[dN]
 |succ k f=>
  rw[s_];unfold qX;split
  .exact f
  simp[aoY,f]
def arp(next:Nat->Nat)(N k:Nat)(j:1<=k)(m:1<=N):(dN next N k).1≠[]:=by
 induction k with
 |zero=>omega
 |succ k f=>
  rw[s_];by_cases h:k=0
  .subst h;have g:(dN next N 0)=([],List.replicate N false):=rfl;have H:(List.replicate N false).getD 0 true=false:=by
    obtain⟨n,rfl⟩:∃n,N=n+1:=⟨N-1,J⟩;rfl
   rw[g];unfold qX;simp only[H];simp
  have:=f J;unfold qX;split
  .exact this
  simp
def Dr(next:Nat->Nat)(N:Nat):∀k,(dN next N k).1.length<=k:=by
 intro k
 induction k with
 |zero=>simp[dN]
 |succ k f=>
  rw[s_];unfold qX;split
  .omega
  simp;exact f
def EK(s:eo):tR s<=I s:=Fu
def agf{ax:aA}(hl:I h<=1000000)(fQ:I ax<=1000000)(iD:∀x∈ax,x<I h)(hp:∀v l,h[v]?=some l->(l.kind==2)=false->v∈ax):
  ∀(F x:Nat) (cG:eo) (w:aA) (j:bD) (blk:aB),j 1=.one (.bg 1472000000 1 0)->blk 1472000000=(1,some (.var (mw f h)))->
   j 4=.one (.hsl 1472128064 1 1 0 (I ax))->blk 1472128064=(1,some (.arr 3 1 (aS ax)))->j 5=.one (.hsl 1472192512 1 1 0 (I cG))->blk 1472192512=(1,some (.arr 4 1 (gE cG)))->
   zI 1472832192 w (j 7) blk->j 8=aq x->x<I cG->I cG=2*I h+2*I ax->tR cG<F->I w+tR cG<=5000000->
   (∀A m,A 1=j 1->A 3=j 3->A 4=j 4->A 5=j 5->A 6=j 6->m 1472000000=blk 1472000000->m 1472128064=blk 1472128064->m 1472896192=blk 1472896192->m 1472896128=blk 1472896128->
    m 1472192512=(1,some (.arr 4 1 (gE (eZ (fz h ax) F x cG).2)))->zI 1472832192 (w++(eZ (fz h ax) F x cG).1) (A 7) m->Q .normal A m)->
   W S .all (.loop Fo) (kZ 2 Q) j blk:=by
 intro F
 induction F with
 |zero=>intro x cG w j blk _ _ _ _ _ _ _ _ _ _ ab;omega
 |succ F ih=>
  intro x cG w j blk u D r y q B ho h8 z hsl hu hw H;obtain⟨b,N⟩:=bq z;have R:=qa N;have vZ:cG.getD x true=b:=by rw[dT,N];rfl
  unfold eZ at H;rw[vZ]at H;refine mu ?_;cases b with
  |true=>
   simp only[go_sem,Fo,q,B,h8,z,R,ae,ao];refine H _ _ ?_ ?_ ?_ ?_ ?_ rfl rfl rfl rfl B ?_;all_goals simp only[go_sem]
   exact ho
  |false=>
   have Bp:=HW N;have pt:=asA f h ax x hl fQ iD hp J;have iI:=JW (d:=x) iD hp J;have jK:=Dj cG x true;have jQ:∀n:Nat,n<=5000001->n*8<=140737488355328:=λn hn=>J;have Di:List.take (I ax) (aS ax)=aS ax:=eW aG;rcases ho with⟨rfl,Y⟩|⟨L4,g,Y,hC⟩
   .simp only[go_sem,Fo,u,D,r,y,q,B,Y,h8,z,R,jK,Di,Y7,dj pt,ae,ao];refine ih (fz h ax x) (cG.set x true) [x] _ _ ?_ ?_ ?_ ?_ ?_ ?_ ?_ ?_ (by simpa [hsl]using iI) (by simpa using hsl) J (by simp;omega) ?_
    .simp only[go_sem,u]
    .simp only[go_sem,D]
    .simp only[go_sem,r]
    .simp only[go_sem,y]
    .simp only[go_sem,q,jc]
    .simp only[go_sem]
    .simp only[go_sem];exact .inr ⟨aG,_,rfl,rfl⟩
    .simp only[go_sem]
    intro A m X Z q4 q5 T E b2 O b4 L M;refine H A m ?_ ?_ ?_ ?_ ?_ ?_ ?_ ?_ ?_ L ?_
    .rw[X];simp only[go_sem]
    .rw[Z];simp only[go_sem]
    .rw[q4];simp only[go_sem]
    .rw[q5];simp only[go_sem]
    .rw[T];simp only[go_sem]
    .rw[E];simp only[go_sem]
    .rw[b2];simp only[go_sem]
    .rw[O];simp only[go_sem]
    .rw[b4];simp only[go_sem]
    simpa using M
   have FC:List.take (I w) (aS w)=aS w:=eW aG;have dD:=jQ (I w+1) J;simp only[go_sem,Fo,u,D,r,y,q,B,Y,h8,z,R,jK,Di,Y7,dj pt,hC,FC,dD,ae,ao];refine ih (fz h ax x) (cG.set x true) (w++[x]) _ _ ?_ ?_ ?_ ?_ ?_ ?_ ?_ ?_ (by simpa [hsl]using iI) (by simpa using hsl) J (by simp;omega) ?_
   .simp only[go_sem,u]
   .simp only[go_sem,D]
   .simp only[go_sem,r]
   .simp only[go_sem,y]
   .simp only[go_sem,q,jc]
   .simp only[go_sem]
   .simp only[go_sem];exact .inr ⟨aG,g+1,aG,by simp[bj]⟩
   .simp only[go_sem]
   intro A m X Z q4 q5 T E b2 O b4 L M;refine H A m ?_ ?_ ?_ ?_ ?_ ?_ ?_ ?_ ?_ L ?_
   .rw[X];simp only[go_sem]
   .rw[Z];simp only[go_sem]
   .rw[q4];simp only[go_sem]
   .rw[q5];simp only[go_sem]
   .rw[T];simp only[go_sem]
   .rw[E];simp only[go_sem]
   .rw[b2];simp only[go_sem]
   .rw[O];simp only[go_sem]
   .rw[b4];simp only[go_sem]
   simpa using M
def arD(f:Nat)(o:List aA)(v:V)(blk:aB):Prop:=(o=[]/\v=.one (.p .nils))\/(o≠[]/\ ∃g,v=.one (.hsl f g 1 0 (I o))/\blk f=(g,some (.arr 25 1 (o.map λw=>[pj w]))))
def acS(f:Int)(h:aI)(hl:I h<=1000000)(M:aH h≠[])(hp:∀v l,h[v]?=some l->(l.kind==2)=false->v∈aH h):
  aC S 23 [dQ f h] (.one (.own 25 1 ((fW (fz h (aH h)) (2*I h+2*I (aH h))).map λw=>[pj w]))):=by
 have A:=Xn f h hl;have iD:∀x∈aH h,x<I h:=λx ag=>JR ag;have fQ:I (aH h)<=I h:=mv h (I h);unfold E9 at A;rw[aD M]at A;generalize aH h=ax at M hp A iD fQ;have m1:=lR (a:=I h) J;have m2:=lR (a:=I ax) J;have m3:=oo (a:=2*I h) (b:=2*I ax) J;have iT:I (aS ax)=I ax:=aG;have jQ:2*I h+2*I ax<=140737488355328:=J;have De:List.replicate (2*I h+2*I ax) [PV.bool false]=gE (List.replicate (2*I h+2*I ax) false):=aG
 refine bG arF ?_;have ab:∀(blk:aB),d_ blk [] 1472128064 ((RV.one (.own 3 1 (aS ax))).eU (S.lone 1472128064))=some (.one (.hsl 1472128064 ((blk 1472128064).1+1) 1 0 (I ax)),[(1472128064,((blk 1472128064).1+1,some (.arr 3 1 (aS ax))))]):=by intro blk;have fi:S.lone 1472128064=false:=ah;rw[fi];simp only[RV.eU,d_,true_or,if_true,gX,js,jW,jo,ej,rF,m_,cT,jE]
 simp only[go_sem,X2,adT,bl A (ab _),m1,m2,m3,jQ,De,ae,ao];generalize hN:2*I h+2*I ax=N at jQ;refine cD (λk j blk=>j 1=.one (.bg 1472000000 1 0)/\blk 1472000000=(1,some (.var (mw f h)))/\j 4=.one (.hsl 1472128064 1 1 0 (I ax))/\blk 1472128064=(1,some (.arr 3 1 (aS ax)))/\
   j 5=.one (.hsl 1472192512 1 1 0 N)/\blk 1472192512=(1,some (.arr 4 1 (gE (dN (fz h ax) N k).2)))/\j 6=aq k/\arD 1472896192 (dN (fz h ax) N k).1 (j 3) blk) 0 N (bC _) ?_ ?_
 .simp only[go_sem];exact⟨rfl,rfl,.inl ⟨rfl,rfl⟩⟩
 rintro k j blk hk ⟨E,R,z,L,u,y,O,m⟩
 have H:=Ce (fz h ax) N k;have Bk:=Dr (fz h ax) N k;by_cases B:k<N
 .have aL:((k:Int)<(N:Int)):=J;have Y:=bJ (n:=k) J;have aa:=s_ (fz h ax) N k;generalize da:dN (fz h ax) N k=st at H aa m y Bk;obtain⟨out,cG⟩:=st;simp only at H m y Bk;obtain⟨b,hb⟩:=bq (h:=cG) (k:=k) J;have nd:=qa hb;unfold qX at aa;have vZ:cG.getD k true=b:=by rw[dT,hb];rfl
  simp only[vZ]at aa;cases b with
  |true=>have aa:dN (fz h ax) N (k+1)=(out,cG):=aa;simp only[go_sem,Mq,M0,E,R,z,L,u,y,O,B,aL,nd,Y,aa,ae,ao];exact m
  |false=>
   have aa:dN (fz h ax) N (k+1)=(out++[(eZ (fz h ax) (N+1) k cG).1],(eZ (fz h ax) (N+1) k cG).2):=by rw[aa,H];rfl
   have ad:=EK cG;simp only[go_sem,Mq,E,R,z,L,u,y,O,B,aL,nd,ae,ao];refine agf (f:=f) hl J iD hp (N+1) k cG [] _ _ ?_ ?_ ?_ ?_ ?_ ?_ ?_ ?_ J J J (by simp;omega) ?_
   .simp only[go_sem,E]
   .simp only[go_sem,R]
   .simp only[go_sem,z]
   .simp only[go_sem,L]
   .simp only[go_sem,u,H]
   .simp only[go_sem,y]
   .exact .inl ⟨rfl,by simp only[go_sem]⟩
   .simp only[go_sem]
   intro aE ak q1 Q q4 X q6 Z b2 b3 b4 D b6;simp only[go_sem,E,z,u,O]at q1 Q q4 X q6;simp only[go_sem,R,L]at Z b2 b3 b4;have T:(eZ (fz h ax) (N+1) k cG).1≠[]:=by unfold eZ;rw[vZ];simp
   rw[tz]at b6;rcases b6 with⟨e,_⟩|⟨_,g,F,r⟩
   .exact(T e).elim
   generalize eZ (fz h ax) (N+1) k cG=wf at aa T D F r;obtain⟨w,fU⟩:=wf;simp only at aa T D F r;have FC:List.take (I w) (aS w)=aS w:=eW aG;rcases m with⟨rfl,q⟩|⟨m,go,q,hO⟩
   .rw[q]at Q;simp only[go_sem,Tj,M0,q1,Q,q4,X,q6,Z,b2,D,F,r,FC,Y,aa,B,sR,dL,ae,ao];exact .inr ⟨aG,_,rfl,by simp[bj]⟩
   rw[q]at Q;have Bo:List.take (I out) (out.map λw=>[pj w])=out.map λw=>[pj w]:=eW aG;have dD:(I out+1)*24<=140737488355328:=J;simp only[go_sem,Tj,M0,q1,Q,q4,X,q6,Z,b2,b3,D,F,r,hO,FC,Bo,dD,Y,aa,B,sR,dL,ae,ao];exact .inr ⟨aG,go+1,aG,by simp[bj]⟩
 have:k=N:=J;subst this;have he:fW (fz h ax) k=(dN (fz h ax) k k).1:=rfl;rw[<-he]at m;rcases m with⟨e,q⟩|⟨m,g,q,r⟩
 .exact(arp (fz h ax) k k (by have:=nA.2 M;omega) (by have:=nA.2 M;omega) e).elim
 simp only[go_sem,Mq,W1,q,u,O,dF,ae,ao];exact DN r aG
abbrev UE(l:af):dk:=[.p (.int .i64 l.kind),.p (.int .i64 l.gate),.p (.int .i64 l.aK),.p (.int .i64 l.id),.p (.int .i64 l.sign),.p (.bool l.over)]
def hs(l o:af):Bool:=(o.kind==l.kind&&o.gate==l.gate)&&o.aK==l.aK
def gM(l o:af):Bool:=((o.kind==l.kind&&o.id==l.id)&&o.sign==l.sign)&& !(o.over==l.over)
def rG(f:Int)(h:aI)(l:af):Bool:= !(((((((l.id !=0||l.sign !=0)||l.over)||decide (l.gate<0))||decide (f<l.gate))||decide (l.aK<1))||decide ((aF (jh l.gate) h:Int)<l.aK))||(((aF (hs l) h:Nat):Int)!=1))
def oi(h:aI)(l:af):Bool:= !((((((l.gate !=0||l.aK !=0)||(l.sign !=1&&l.sign != -1))||decide (l.id<1))||decide (((aF af.aJ h/2:Nat):Int)<l.id))||(((aF (gM l) h:Nat):Int)!=1))||(((aF (kR l.id) h:Nat):Int)!=2))
def eT(f:Int)(h:aI)(l:af):Bool:=if l.kind==1 then rG f h l else if l.kind==2 then oi h l else false
def ako{l:af}{i:Nat}{blk:aB}(hl:I h<=1000000)(h1:j 1=.one (.bg 1408000000 1 0))(hB:blk 1408000000=(1,some (.var (mw f h))))(h3:j 3=aq i)(Z:j 4=.one (.bg 1408256320 g 0))(hL:blk 1408256320=(g,some (.var (UE l))))
  (h5:j 5=aq 0) (h6:j 6=aq 0) (h7:j 7=aq 0)
  (hq:∀D Y,D 1=j 1->D 3=j 3->D 4=j 4->Y 1408000000=blk 1408000000->Y 1408256320=blk 1408256320->D 5=aq (aF (hs l) h)->D 6=aq (aF (gM l) h)->Q .normal D Y):
  W S .all (.loop qq) (kZ 2 Q) j blk:=by
 refine cD (λk D Y=>D 1=.one (.bg 1408000000 1 0)/\Y 1408000000=(1,some (.var (mw f h)))/\D 3=aq i/\D 4=.one (.bg 1408256320 g 0)/\Y 1408256320=(g,some (.var (UE l)))/\
   D 5=aq (aF (hs l) (h.take k))/\D 6=aq (aF (gM l) (h.take k))/\D 7=aq k) 0 (I h) (bC _) ?_ ?_
 .exact⟨h1,hB,h3,Z,hL,h5,h6,h7⟩
 rintro k D Y hk ⟨g1,z,M,L,mx,B,y,F⟩
 by_cases A:k<I h
 .obtain⟨o,H⟩:=bq A;have T:=iF H;have R:((k:Int)<(I h:Int)):=J;have b5:=uv (hs l) h k;have b6:=uv (gM l) h k;have N:=bJ (n:=k) J;have X:=bJ (n:=aF (hs l) (h.take k)) J;have O:=bJ (n:=aF (gM l) (h.take k)) J;cases E:(o.kind==l.kind)with
  |true=>
   cases q:(o.gate==l.gate)with
   |true=>
    cases v:(o.aK==l.aK)with
    |true=>
     cases m:(o.id==l.id)with
     |true=>
      cases r:(o.sign==l.sign)with
      |true=>
       cases x:(o.over==l.over)with
       |true=>have u:=pK (p:=hs l) H (by simp only[hs,E,q,v,m,r,x];rfl);have fq:=jf (p:=gM l) H (by simp only[gM,E,q,v,m,r,x];rfl);simp only[go_sem,qq,g1,z,M,L,mx,B,y,F,T,cW,af.ps,R,N,X,O,E,q,v,m,r,x,u,fq,ae,ao];first|exact A|exact⟨A,rfl⟩|exact⟨A,rfl,rfl⟩
       |false=>have u:=pK (p:=hs l) H (by simp only[hs,E,q,v,m,r,x];rfl);have fq:=pK (p:=gM l) H (by simp only[gM,E,q,v,m,r,x];rfl);simp only[go_sem,qq,g1,z,M,L,mx,B,y,F,T,cW,af.ps,R,N,X,O,E,q,v,m,r,x,u,fq,ae,ao];first|exact A|exact⟨A,rfl⟩|exact⟨A,rfl,rfl⟩
      |false=>have u:=pK (p:=hs l) H (by simp only[hs,E,q,v,m,r];rfl);have fq:=jf (p:=gM l) H (by simp only[gM,E,q,v,m,r];rfl);simp only[go_sem,qq,g1,z,M,L,mx,B,y,F,T,cW,af.ps,R,N,X,O,E,q,v,m,r,u,fq,ae,ao];first|exact A|exact⟨A,rfl⟩|exact⟨A,rfl,rfl⟩
     |false=>have u:=pK (p:=hs l) H (by simp only[hs,E,q,v,m];rfl);have fq:=jf (p:=gM l) H (by simp only[gM,E,q,v,m];rfl);simp only[go_sem,qq,g1,z,M,L,mx,B,y,F,T,cW,af.ps,R,N,X,O,E,q,v,m,u,fq,ae,ao];first|exact A|exact⟨A,rfl⟩|exact⟨A,rfl,rfl⟩
    |false=>
     cases m:(o.id==l.id)with
     |true=>
      cases r:(o.sign==l.sign)with
      |true=>
       cases x:(o.over==l.over)with
       |true=>have u:=jf (p:=hs l) H (by simp only[hs,E,q,v,m,r,x];rfl);have fq:=jf (p:=gM l) H (by simp only[gM,E,q,v,m,r,x];rfl);simp only[go_sem,qq,g1,z,M,L,mx,B,y,F,T,cW,af.ps,R,N,X,O,E,q,v,m,r,x,u,fq,ae,ao];first|exact A|exact⟨A,rfl⟩|exact⟨A,rfl,rfl⟩
       |false=>have u:=jf (p:=hs l) H (by simp only[hs,E,q,v,m,r,x];rfl);have fq:=pK (p:=gM l) H (by simp only[gM,E,q,v,m,r,x];rfl);simp only[go_sem,qq,g1,z,M,L,mx,B,y,F,T,cW,af.ps,R,N,X,O,E,q,v,m,r,x,u,fq,ae,ao];first|exact A|exact⟨A,rfl⟩|exact⟨A,rfl,rfl⟩
      |false=>have u:=jf (p:=hs l) H (by simp only[hs,E,q,v,m,r];rfl);have fq:=jf (p:=gM l) H (by simp only[gM,E,q,v,m,r];rfl);simp only[go_sem,qq,g1,z,M,L,mx,B,y,F,T,cW,af.ps,R,N,X,O,E,q,v,m,r,u,fq,ae,ao];first|exact A|exact⟨A,rfl⟩|exact⟨A,rfl,rfl⟩
     |false=>have u:=jf (p:=hs l) H (by simp only[hs,E,q,v,m];rfl);have fq:=jf (p:=gM l) H (by simp only[gM,E,q,v,m];rfl);simp only[go_sem,qq,g1,z,M,L,mx,B,y,F,T,cW,af.ps,R,N,X,O,E,q,v,m,u,fq,ae,ao];first|exact A|exact⟨A,rfl⟩|exact⟨A,rfl,rfl⟩
   |false=>
    cases m:(o.id==l.id)with
    |true=>
     cases r:(o.sign==l.sign)with
     |true=>
      cases x:(o.over==l.over)with
      |true=>have u:=jf (p:=hs l) H (by simp only[hs,E,q,m,r,x];rfl);have fq:=jf (p:=gM l) H (by simp only[gM,E,q,m,r,x];rfl);simp only[go_sem,qq,g1,z,M,L,mx,B,y,F,T,cW,af.ps,R,N,X,O,E,q,m,r,x,u,fq,ae,ao];first|exact A|exact⟨A,rfl⟩|exact⟨A,rfl,rfl⟩
      |false=>have u:=jf (p:=hs l) H (by simp only[hs,E,q,m,r,x];rfl);have fq:=pK (p:=gM l) H (by simp only[gM,E,q,m,r,x];rfl);simp only[go_sem,qq,g1,z,M,L,mx,B,y,F,T,cW,af.ps,R,N,X,O,E,q,m,r,x,u,fq,ae,ao];first|exact A|exact⟨A,rfl⟩|exact⟨A,rfl,rfl⟩
     |false=>have u:=jf (p:=hs l) H (by simp only[hs,E,q,m,r];rfl);have fq:=jf (p:=gM l) H (by simp only[gM,E,q,m,r];rfl);simp only[go_sem,qq,g1,z,M,L,mx,B,y,F,T,cW,af.ps,R,N,X,O,E,q,m,r,u,fq,ae,ao];first|exact A|exact⟨A,rfl⟩|exact⟨A,rfl,rfl⟩
    |false=>have u:=jf (p:=hs l) H (by simp only[hs,E,q,m];rfl);have fq:=jf (p:=gM l) H (by simp only[gM,E,q,m];rfl);simp only[go_sem,qq,g1,z,M,L,mx,B,y,F,T,cW,af.ps,R,N,X,O,E,q,m,u,fq,ae,ao];first|exact A|exact⟨A,rfl⟩|exact⟨A,rfl,rfl⟩
  |false=>have u:=jf (p:=hs l) H (by simp only[hs,E];rfl);have fq:=jf (p:=gM l) H (by simp only[gM,E];rfl);simp only[go_sem,qq,g1,z,M,L,mx,B,y,F,T,cW,af.ps,R,N,X,O,E,u,fq,ae,ao];first|exact A|exact⟨A,rfl⟩|exact⟨A,rfl,rfl⟩
 have:k=I h:=J;subst this;rw[iV]at B y;simp only[go_sem,qq,g1,z,F,dF,ae,ao];refine hq _ _ ?_ ?_ ?_ ?_ ?_ ?_ ?_;all_goals simp only[go_sem,g1,z,M,L,mx,B,y,h1,hB,h3,Z,hL]
def ahO{l:af}{i:Nat}{blk:aB}(hl:I h<=1000000)(T:j 1=.one (.bg 1408000000 1 0))(X:blk 1408000000=(1,some (.var (mw f h))))(N:j 3=aq i)(H:j 4=.one (.bg 1408256320 g 0))(M:blk 1408256320=(g,some (.var (UE l))))
  (Y:j 5=aq (aF (hs l) h)) (R:j 6=aq (aF (gM l) h))
  (hq:eT f h l->∀aE,aE 1=j 1->aE 3=j 3->Q .normal aE blk) (Z:eT f h l=false->∀aE,aE 2=.one (.p (.bool false))->Q .ret aE blk):
  W S .all kO Q j blk:=by
 have q:=RI f h hl l.gate;have u:=T2 f h hl;have v:=afn f h hl l.id;have Im:=ld af.aJ h;have O:=wrap_small (n:=aF af.aJ h/2) J;cases m:(l.kind==1)with
 |true=>
  cases r:(l.id !=0)with
  |true=>
   have A:eT f h l=false:=by simp only[eT,m,rG,r];rfl
   simp only[go_sem,kO,T,X,N,H,M,Y,R,kG,je,lU,c4 q,c4 u,c4 v,dZ,de,O,m,r,ae,ao];refine⟨ah,Z A _ ?_⟩;simp only[go_sem]
  |false=>
   cases x:(l.sign !=0)with
   |true=>
    have A:eT f h l=false:=by simp only[eT,m,rG,r,x];rfl
    simp only[go_sem,kO,T,X,N,H,M,Y,R,kG,je,lU,c4 q,c4 u,c4 v,dZ,de,O,m,r,x,ae,ao];refine⟨ah,Z A _ ?_⟩;simp only[go_sem]
   |false=>
    cases y:(l.over)with
    |true=>
     have A:eT f h l=false:=by simp only[eT,m,rG,r,x,y];rfl
     simp only[go_sem,kO,T,X,N,H,M,Y,R,kG,je,lU,c4 q,c4 u,c4 v,dZ,de,O,m,r,x,y,ae,ao];refine⟨ah,Z A _ ?_⟩;simp only[go_sem]
    |false=>
     cases F:(decide (l.gate<0))with
     |true=>
      have vI:(l.gate<0):=mX F;have A:eT f h l=false:=by simp only[eT,m,rG,r,x,y,F];rfl
      simp only[go_sem,kO,T,X,N,H,M,Y,R,kG,je,lU,c4 q,c4 u,c4 v,dZ,de,O,m,r,x,y,vI,ae,ao];refine⟨ah,Z A _ ?_⟩;simp only[go_sem]
     |false=>
      cases z:(decide (f<l.gate))with
      |true=>
       have vI:¬(l.gate<0):=fJ F;have B:(f<l.gate):=mX z;have A:eT f h l=false:=by simp only[eT,m,rG,r,x,y,F,z];rfl
       simp only[go_sem,kO,T,X,N,H,M,Y,R,kG,je,lU,c4 q,c4 u,c4 v,dZ,de,O,m,r,x,y,vI,B,ae,ao];refine⟨ah,Z A _ ?_⟩;simp only[go_sem]
      |false=>
       cases E:(decide (l.aK<1))with
       |true=>
        have vI:¬(l.gate<0):=fJ F;have B:¬(f<l.gate):=fJ z;have L:(l.aK<1):=mX E;have A:eT f h l=false:=by simp only[eT,m,rG,r,x,y,F,z,E];rfl
        simp only[go_sem,kO,T,X,N,H,M,Y,R,kG,je,lU,c4 q,c4 u,c4 v,dZ,de,O,m,r,x,y,vI,B,L,ae,ao];refine⟨ah,Z A _ ?_⟩;simp only[go_sem]
       |false=>
        cases a7:(decide ((aF (jh l.gate) h:Int)<l.aK))with
        |true=>
         have vI:¬(l.gate<0):=fJ F;have B:¬(f<l.gate):=fJ z;have L:¬(l.aK<1):=fJ E;have GZ:((aF (jh l.gate) h:Int)<l.aK):=mX a7;have A:eT f h l=false:=by simp only[eT,m,rG,r,x,y,F,z,E,a7];rfl
         simp only[go_sem,kO,T,X,N,H,M,Y,R,kG,je,lU,c4 q,c4 u,c4 v,dZ,de,O,m,r,x,y,vI,B,L,GZ,ae,ao];refine⟨ah,Z A _ ?_⟩;simp only[go_sem]
        |false=>
         cases a8:(((aF (hs l) h:Nat):Int)!=1)with
         |true=>
          have vI:¬(l.gate<0):=fJ F;have B:¬(f<l.gate):=fJ z;have L:¬(l.aK<1):=fJ E;have GZ:¬((aF (jh l.gate) h:Int)<l.aK):=fJ a7;have A:eT f h l=false:=by simp only[eT,m,rG,r,x,y,F,z,E,a7,a8];rfl
          simp only[go_sem,kO,T,X,N,H,M,Y,R,kG,je,lU,c4 q,c4 u,c4 v,dZ,de,O,m,r,x,y,vI,B,L,GZ,a8,ae,ao];refine⟨ah,Z A _ ?_⟩;simp only[go_sem]
         |false=>
          have vI:¬(l.gate<0):=fJ F;have B:¬(f<l.gate):=fJ z;have L:¬(l.aK<1):=fJ E;have GZ:¬((aF (jh l.gate) h:Int)<l.aK):=fJ a7;have A:eT f h l:=by simp only[eT,m,rG,r,x,y,F,z,E,a7,a8];rfl
          simp only[go_sem,kO,T,X,N,H,M,Y,R,kG,je,lU,c4 q,c4 u,c4 v,dZ,de,O,m,r,x,y,vI,B,L,GZ,a8,ae,ao];refine⟨ah,hq A _ ?_ ?_⟩;all_goals simp only[go_sem]
 |false=>
  cases D:(l.kind==2)with
  |true=>
   cases r:(l.gate !=0)with
   |true=>
    have A:eT f h l=false:=by simp only[eT,m,D,oi,r];rfl
    simp only[go_sem,kO,T,X,N,H,M,Y,R,kG,je,lU,c4 q,c4 u,c4 v,dZ,de,O,m,D,r,ae,ao];refine⟨ah,Z A _ ?_⟩;simp only[go_sem]
   |false=>
    cases x:(l.aK !=0)with
    |true=>
     have A:eT f h l=false:=by simp only[eT,m,D,oi,r,x];rfl
     simp only[go_sem,kO,T,X,N,H,M,Y,R,kG,je,lU,c4 q,c4 u,c4 v,dZ,de,O,m,D,r,x,ae,ao];refine⟨ah,Z A _ ?_⟩;simp only[go_sem]
    |false=>
     cases y:(l.sign !=1)with
     |true=>
      cases F:(l.sign != -1)with
      |true=>
       have A:eT f h l=false:=by simp only[eT,m,D,oi,r,x,y,F];rfl
       simp only[go_sem,kO,T,X,N,H,M,Y,R,kG,je,lU,c4 q,c4 u,c4 v,dZ,de,O,m,D,r,x,y,F,ae,ao];refine⟨ah,Z A _ ?_⟩;simp only[go_sem]
      |false=>
       cases z:(decide (l.id<1))with
       |true=>
        have B:(l.id<1):=mX z;have A:eT f h l=false:=by simp only[eT,m,D,oi,r,x,y,F,z];rfl
        simp only[go_sem,kO,T,X,N,H,M,Y,R,kG,je,lU,c4 q,c4 u,c4 v,dZ,de,O,m,D,r,x,y,F,B,ae,ao];refine⟨ah,Z A _ ?_⟩;simp only[go_sem]
       |false=>
        cases E:(decide (((aF af.aJ h/2:Nat):Int)<l.id))with
        |true=>
         have B:¬(l.id<1):=fJ z;have L:(((aF af.aJ h/2:Nat):Int)<l.id):=mX E;have A:eT f h l=false:=by simp only[eT,m,D,oi,r,x,y,F,z,E];rfl
         simp only[go_sem,kO,T,X,N,H,M,Y,R,kG,je,lU,c4 q,c4 u,c4 v,dZ,de,O,m,D,r,x,y,F,B,L,ae,ao];refine⟨ah,Z A _ ?_⟩;simp only[go_sem]
        |false=>
         cases a7:(((aF (gM l) h:Nat):Int)!=1)with
         |true=>
          have B:¬(l.id<1):=fJ z;have L:¬(((aF af.aJ h/2:Nat):Int)<l.id):=fJ E;have A:eT f h l=false:=by simp only[eT,m,D,oi,r,x,y,F,z,E,a7];rfl
          simp only[go_sem,kO,T,X,N,H,M,Y,R,kG,je,lU,c4 q,c4 u,c4 v,dZ,de,O,m,D,r,x,y,F,B,L,a7,ae,ao];refine⟨ah,Z A _ ?_⟩;simp only[go_sem]
         |false=>
          cases a8:(((aF (kR l.id) h:Nat):Int)!=2)with
          |true=>
           have B:¬(l.id<1):=fJ z;have L:¬(((aF af.aJ h/2:Nat):Int)<l.id):=fJ E;have A:eT f h l=false:=by simp only[eT,m,D,oi,r,x,y,F,z,E,a7,a8];rfl
           simp only[go_sem,kO,T,X,N,H,M,Y,R,kG,je,lU,c4 q,c4 u,c4 v,dZ,de,O,m,D,r,x,y,F,B,L,a7,a8,ae,ao];refine⟨ah,Z A _ ?_⟩;simp only[go_sem]
          |false=>
           have B:¬(l.id<1):=fJ z;have L:¬(((aF af.aJ h/2:Nat):Int)<l.id):=fJ E;have A:eT f h l:=by simp only[eT,m,D,oi,r,x,y,F,z,E,a7,a8];rfl
           simp only[go_sem,kO,T,X,N,H,M,Y,R,kG,je,lU,c4 q,c4 u,c4 v,dZ,de,O,m,D,r,x,y,F,B,L,a7,a8,ae,ao];refine⟨ah,hq A _ ?_ ?_⟩;all_goals simp only[go_sem]
     |false=>
      cases z:(decide (l.id<1))with
      |true=>
       have B:(l.id<1):=mX z;have A:eT f h l=false:=by simp only[eT,m,D,oi,r,x,y,z];rfl
       simp only[go_sem,kO,T,X,N,H,M,Y,R,kG,je,lU,c4 q,c4 u,c4 v,dZ,de,O,m,D,r,x,y,B,ae,ao];refine⟨ah,Z A _ ?_⟩;simp only[go_sem]
      |false=>
       cases E:(decide (((aF af.aJ h/2:Nat):Int)<l.id))with
       |true=>
        have B:¬(l.id<1):=fJ z;have L:(((aF af.aJ h/2:Nat):Int)<l.id):=mX E;have A:eT f h l=false:=by simp only[eT,m,D,oi,r,x,y,z,E];rfl
        simp only[go_sem,kO,T,X,N,H,M,Y,R,kG,je,lU,c4 q,c4 u,c4 v,dZ,de,O,m,D,r,x,y,B,L,ae,ao];refine⟨ah,Z A _ ?_⟩;simp only[go_sem]
       |false=>
        cases a7:(((aF (gM l) h:Nat):Int)!=1)with
        |true=>
         have B:¬(l.id<1):=fJ z;have L:¬(((aF af.aJ h/2:Nat):Int)<l.id):=fJ E;have A:eT f h l=false:=by simp only[eT,m,D,oi,r,x,y,z,E,a7];rfl
         simp only[go_sem,kO,T,X,N,H,M,Y,R,kG,je,lU,c4 q,c4 u,c4 v,dZ,de,O,m,D,r,x,y,B,L,a7,ae,ao];refine⟨ah,Z A _ ?_⟩;simp only[go_sem]
        |false=>
         cases a8:(((aF (kR l.id) h:Nat):Int)!=2)with
         |true=>
          have B:¬(l.id<1):=fJ z;have L:¬(((aF af.aJ h/2:Nat):Int)<l.id):=fJ E;have A:eT f h l=false:=by simp only[eT,m,D,oi,r,x,y,z,E,a7,a8];rfl
          simp only[go_sem,kO,T,X,N,H,M,Y,R,kG,je,lU,c4 q,c4 u,c4 v,dZ,de,O,m,D,r,x,y,B,L,a7,a8,ae,ao];refine⟨ah,Z A _ ?_⟩;simp only[go_sem]
         |false=>
          have B:¬(l.id<1):=fJ z;have L:¬(((aF af.aJ h/2:Nat):Int)<l.id):=fJ E;have A:eT f h l:=by simp only[eT,m,D,oi,r,x,y,z,E,a7,a8];rfl
          simp only[go_sem,kO,T,X,N,H,M,Y,R,kG,je,lU,c4 q,c4 u,c4 v,dZ,de,O,m,D,r,x,y,B,L,a7,a8,ae,ao];refine⟨ah,hq A _ ?_ ?_⟩;all_goals simp only[go_sem]
  |false=>
   have A:eT f h l=false:=by simp only[eT,m,D];rfl
   simp only[go_sem,kO,H,M,m,D,ae,ao];refine Z A _ ?_;simp only[go_sem]
def rM(f:Int)(h:aI):Bool:=h.all (eT f h)
def akd(f:Int)(h:aI)(hl:I h<=1000000):aC S 22 [dQ f h] (bK (rM f h)):=by
 refine bG ajp ?_;simp only[go_sem,YW,ae,ao];refine cD (λk j blk=>j 1=.one (.bg 1408000000 1 0)/\blk 1408000000=(1,some (.var (mw f h)))/\j 3=aq k/\ ∀u l,u<k->h[u]?=some l->eT f h l) 0 (I h) (bC _) ?_ ?_
 .simp only[go_sem];exact⟨rfl,λu l ab=>absurd ab (l_ u)⟩
 rintro k j blk hk ⟨m,r,q,L⟩
 by_cases O:k<I h
 .obtain⟨l,A⟩:=bq O;have hi:=iF A;have X:((k:Int)<(I h:Int)):=J;have R:=bJ (n:=k) J;simp only[go_sem,P6,m,r,q,hi,cW,af.ps,X,ae,ao];refine ako (f:=f) (l:=l) (g:=(blk 1408256320).1+1) (i:=k) hl ?_ ?_ ?_ ?_ ?_ ?_ ?_ ?_ ?_
  .simp only[go_sem,m]
  .simp only[go_sem,r]
  .simp only[go_sem,q]
  .simp only[go_sem]
  .simp only[go_sem]
  .simp only[go_sem]
  .simp only[go_sem]
  .simp only[go_sem]
  intro aE ak v y E B F q5 Y;simp only[go_sem,m,q]at v y E;simp only[go_sem,r]at B F;simp only[go_sem];refine ahO (f:=f) (l:=l) (i:=k) hl v B y E F q5 Y ?_ ?_
  .intro Z T M N;rw[v]at M;rw[y]at N;simp only[go_sem,WM,M,B,N,R,ae,ao];refine⟨O,λu l' H Q=>?_⟩;rcases jG.1 H with H|rfl
   .exact L u l' H Q
   rw[A]at Q;cases Q;exact Z
  intro D T e2;have z:rM f h=false:=by unfold rM;rw[I9];exact⟨l,bY A,by simp[D]⟩
  simp only[go_sem,e2,z,ae,ao]
 have:k=I h:=J;subst this;have z:rM f h:=by unfold rM;rw[gL];intro x hx;obtain⟨u,H,rfl⟩:=List.getElem_of_mem hx;exact L u _ H aG
 simp only[go_sem,P6,W8,m,r,q,dF,z,ae,ao]
def ajE{o:aA}{i:Nat}:x∈uw h o i↔x∈o\/x=i:=by
 unfold uw;generalize(o.takeWhile (wb h i)).length=bN;constructor
 .intro H;rcases fB.1 H with H|H
  .exact .inl (qM H)
  rcases dL.1 H with H|H
  .exact .inr H
  exact .inl (rj H)
 rintro(H|rfl)
 .rw[<-Cb bN o]at H;rcases fB.1 H with H|H
  .exact fB.2 (.inl H)
  exact fB.2 (.inr (dL.2 (.inr H)))
 simp
def adH:∀ {k x:Nat},k<=I h->(x∈mr h k↔x<k/\ ∃l,h[x]?=some l/\l.aN):=by
 intro k
 induction k with
 |zero=>intro x _;simp[mr]
 |succ k g=>
  intro x q;rw[DU];obtain⟨l,hl⟩:=bq (h:=h) (k:=k) J;have g:=g (x:=x) J;unfold vp;rw[hl];simp only;by_cases hp:l.aN
  .rw[aM hp,ajE,g];constructor
   .rintro (⟨f,H⟩|rfl)
    .exact⟨J,H⟩
    exact⟨J,l,hl,hp⟩
   rintro⟨f,H⟩
   rcases jG.1 f with n|rfl
   .exact .inl ⟨n,H⟩
   exact .inr rfl
  rw[aD hp,g];constructor
  .rintro ⟨f,H⟩;exact⟨J,H⟩
  rintro⟨f,m,j,L⟩
  rcases jG.1 f with n|rfl
  .exact⟨n,m,j,L⟩
  rw[hl]at j;cases j;exact(hp L).elim
def tm:x∈aH h↔ ∃l,h[x]?=some l/\l.aN:=by
 have:=adH (h:=h) (k:=I h) (x:=x) (cH _);have e:aH h=mr h (I h):=rfl;rw[e,this];constructor
 .rintro ⟨_,H⟩;exact H
 rintro⟨l,H,f⟩;exact⟨(ct.1 H).1,l,H,f⟩
def acD(m:rM f h){l:af}(g:h[v]?=some l):l.aN\/l.aJ:=by
 have:=(gL.1 m) l (bY g);unfold eT at this;unfold af.aN af.aJ;cases H:(l.kind==1)with
 |true=>exact .inl rfl
 |false=>
  cases j:(l.kind==2)with
  |true=>exact .inr rfl
  |false=>rw[H,j]at this;simp at this
def sJ(h:aI):Nat:=I (fW (fz h (aH h)) (2*I h+2*I (aH h)))
def kn(f:Int)(h:aI):Bool:=(match h[0]? with|some l=>l.kind==1|none=>true)&&(aF af.aN h%2==0)&&rM f h&&(sJ h==aF af.aN h+aF af.aJ h/2+2)
def kM(f:Int)(h:aI):Int:=if 400<I h\/200<aF af.aJ h then 7 else if f<0\/40<f then 2 else if h=[]then 0 else if kn f h then 0 else 3
def asd(f:Int)(h:aI)(hl:I h<=1000000):aC S 10 [dQ f h] (fy (kM f h)):=by
 have j:=T2 f h hl;have u:=Wx f h hl;have q:=akd f h hl;have Q:=Sy f h hl;have am:=ld af.aJ h;have fE:=ld af.aN h;refine bG Hg ?_;unfold kM;by_cases T:400<I h
 .have z:(400:Int)<(I h:Int):=J;simp only[go_sem,vh,T,z,ae,ao]
 have z:¬(400:Int)<(I h:Int):=J;by_cases O:200<aF af.aJ h
 .have y:(200:Int)<(aF af.aJ h:Int):=J;simp only[go_sem,vh,T,z,O,y,je,dj j,ae,ao]
 have y:¬(200:Int)<(aF af.aJ h:Int):=J;by_cases B:f<0
 .simp only[go_sem,vh,T,z,O,y,B,je,dj j,ae,ao]
 by_cases F:40<f
 .simp only[go_sem,vh,T,z,O,y,B,F,je,dj j,ae,ao]
 have ag:¬(400<I h\/200<aF af.aJ h):=J;have Y:¬(f<0\/40<f):=J;rw[aD ag,aD Y];by_cases he:h=[]
 .subst he;have hz:(((0:Nat):Int)==0):=U;have ad:¬((400:Int)<((0:Nat):Int)):=U;have ab:aC S 20 [.agg [.p (.int .i64 f),.p (.sl [])]] (fy (aF af.aJ [])):=j;simp only[go_sem,vh,ad,y,B,F,je,dj ab,hz,ae,ao]
 have H:0<I h:=nA.2 he;obtain⟨X,E⟩:=bq H;have R:=iF E;have Z:(((I h:Nat):Int)==0)=false:=by simp;omega
 rw[aD he];generalize g:(if kn f h=true then(0:Int)else 3)=r;cases A:(X.kind==1)with
 |false=>
  have m:(X.kind !=1):=by simp[bne,A]
  have n:kn f h=false:=by simp only[kn,E,A];rfl
  rw[n]at g;have g:(3:Int)=r:=g;subst g;simp only[go_sem,vh,z,y,B,F,je,dj j,Z,AA,dj u,R,cW,af.ps,m,H,ae,ao];exact aw
 |true=>
  have m:(X.kind !=1)=false:=by simp[bne,A]
  cases N:(aF af.aN h%2==0)with
  |false=>
   have x:(((aF af.aN h%2:Nat):Int)!=0):=by simp at N |-;omega
   have n:kn f h=false:=by simp only[kn,E,A,N];rfl
   rw[n]at g;have g:(3:Int)=r:=g;subst g;simp only[go_sem,vh,z,y,B,F,je,dj j,Z,AA,dj u,R,cW,af.ps,m,hD,de,x,H,ae,ao];exact aw
  |true=>
   have x:(((aF af.aN h%2:Nat):Int)!=0)=false:=by simp at N |-;omega
   cases cP:rM f h with
   |false=>
    rw[cP]at q;have n:kn f h=false:=by simp only[kn,E,A,N,cP];rfl
    rw[n]at g;have g:(3:Int)=r:=g;subst g;simp only[go_sem,vh,z,y,B,F,je,dj j,Z,AA,dj u,R,cW,af.ps,m,hD,de,x,UK,cN q,H,ae,ao];exact aw
   |true=>
    rw[cP]at q;have aY:aH h≠[]:=λe=>by have:(0:Nat)∈aH h:=tm.2 ⟨X,E,A⟩;rw[e]at this;cases this
    have hp:∀v l,h[v]?=some l->(l.kind==2)=false->v∈aH h:=λv l n O=>by
     rcases acD cP n with ak|ak
     .exact tm.2 ⟨l,n,ak⟩
     unfold af.aJ at ak;rw[O]at ak;cases ak
    have pw:=acS f h hl aY hp;have L:sJ h=I (fW (fz h (aH h)) (2*I h+2*I (aH h))):=rfl;have nj:=Dr (fz h (aH h)) (2*I h+2*I (aH h)) (2*I h+2*I (aH h));generalize hW:fW (fz h (aH h)) (2*I h+2*I (aH h))=M at pw nj L;have a1:=oo (a:=aF af.aN h) (b:=aF af.aJ h/2) J;have a2:IntKind.i64.wrap (((aF af.aN h+aF af.aJ h/2:Nat):Int)+2)=((aF af.aN h+aF af.aJ h/2+2:Nat):Int):=oo (a:=aF af.aN h+aF af.aJ h/2) (b:=2) J;have fi:S.lone 640513152=false:=ah
    have dO:∀(blk:aB),d_ blk [] 640513152 ((RV.one (.own 25 1 (M.map λw=>[pj w]))).eU (S.lone 640513152))=some (.one (.hsl 640513152 ((blk 640513152).1+1) 1 0 (I M)),[(640513152,((blk 640513152).1+1,some (.arr 25 1 (M.map λw=>[pj w]))))]):=by intro blk;rw[fi];simp only[RV.eU,d_,true_or,if_true,gX,js,jW,jo,ej,rF,m_,cT,jE]
    cases fv:(I M==aF af.aN h+aF af.aJ h/2+2)with
    |false=>
     have D:(((I M:Nat):Int)!=((aF af.aN h+aF af.aJ h/2+2:Nat):Int)):=by simp at fv |-;omega
     have n:kn f h=false:=by simp only[kn,E,A,N,cP,L,fv];rfl
     rw[n]at g;have g:(3:Int)=r:=g;subst g;simp only[go_sem,vh,z,y,B,F,je,dj j,Z,AA,dj u,R,cW,af.ps,m,hD,de,x,UK,cN q,Tt,fT pw (dO _),E8,c4 Q,a1,a2,D,H,ae,ao];exact aw
    |true=>
     have D:(((I M:Nat):Int)!=((aF af.aN h+aF af.aJ h/2+2:Nat):Int))=false:=by simp at fv |-;omega
     have n:kn f h:=by simp only[kn,E,A,N,cP,L,fv];rfl
     rw[n]at g;have g:(0:Int)=r:=g;subst g;simp only[go_sem,vh,z,y,B,F,je,dj j,Z,AA,dj u,R,cW,af.ps,m,hD,de,x,UK,cN q,Tt,fT pw (dO _),E8,c4 Q,a1,a2,D,H,ae,ao];exact aw
end Go.Abs
