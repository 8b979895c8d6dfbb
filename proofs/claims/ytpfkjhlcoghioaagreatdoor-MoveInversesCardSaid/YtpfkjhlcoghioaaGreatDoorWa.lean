/- A part. -/
import Derived.Test.YtpfkjhlcoghioaaGreatDoorSa
set_option linter.all false
open List renaming length->I
set_option maxRecDepth 100000
set_option maxHeartbeats 16000000
namespace Go.Abs
variable{H z T D B j N:Nat}{m:bP}{Q:ib}{u:Bool}{A E:cG}
section
variable{f:Int}{F n y v x:Nat}
structure U where
 kind:Int
 gate:Int
 ao:Int
 id:Int
 sign:Int
 over:Bool
 deriving DecidableEq
abbrev ae:=List U
abbrev AB:=List ae
def U.ps(l:U):dR:=[.int .i64 l.kind,.int .i64 l.gate,.int .i64 l.ao,.int .i64 l.id,.int .i64 l.sign,.bool l.over]
def U.ay(l:U):Bool:=l.kind==1
def U.au(l:U):Bool:=l.kind==2
abbrev fz(ls:ae):PV:=.sl (ls.map U.ps)
abbrev c7(f:Int)(ls:ae):V:=.agg [.p (.int .i64 f),.p (fz ls)]
abbrev pF(f:Int)(ls:ae):eC:=[.p (.int .i64 f),.p (fz ls)]
abbrev ai(k:Int):V:=.one (.p (.int .i64 k))
abbrev iB(b:Bool):V:=.one (.p (.bool b))
abbrev fH(k:Int):RV:=.one (.p (.int .i64 k))
abbrev cK(k:Bool):RV:=.one (.p (.bool k))
abbrev aq(p:U->Bool)(ls:ae):Nat:=ls.countP p
def aP{α:Type}{h:List α}{k:Nat}(H:k<I h):∃l,h[k]?=some l:=⟨h[k],by simp[H]⟩
theorem uY{p:U->Bool}{h:ae}{k:Nat}{l:U}(f:h[k]?=some l)(hp:p l):aq p (h.take (k+1))=aq p (h.take k)+1:=by unfold aq;obtain⟨H,rfl⟩:=bN.1 f;rw[acB H,uW,Y4,aI hp]
theorem lZ{p:U->Bool}{h:ae}{k:Nat}{l:U}(f:h[k]?=some l)(hp:p l=false):aq p (h.take (k+1))=aq p (h.take k):=by unfold aq;obtain⟨H,rfl⟩:=bN.1 f;rw[acB H,uW,Y4,hp];rfl
def B8(p:U->Bool)(h:ae)(k:Nat):aq p (h.take k)<=k:=ob OH ii
def ny(p:U->Bool)(h:ae):aq p h<=I h:=OH
def fW{h:ae}{k:Nat}{l:U}(H:h[k]?=some l):(h.map U.ps)[k]?=some l.ps:=by simp[H]
def uh{a b:Nat}(h:a+b<=9223372036854775807):IntKind.i64.wrap ((a:Int)+(b:Int))=((a+b:Nat):Int):=wrap_small (n:=a+b) h
def qj{a:Nat}(h:2*a<=9223372036854775807):IntKind.i64.wrap (2*(a:Int))=((2*a:Nat):Int):=wrap_small (n:=2*a) h
def S6{a b:Nat}(h:b<=a)(H:a<=9223372036854775807):IntKind.i64.wrap ((a:Int)-(b:Int))=((a-b:Nat):Int):=by have:((a:Int)-(b:Int))=((a-b:Nat):Int):=J;rw[this];exact wrap_small J
def EU{a:Nat}(h:1<=a)(H:a<=9223372036854775807):IntKind.i64.wrap ((a:Int)-1)=((a-1:Nat):Int):=S6 (b:=1) h H
def asQ(x y:Option (dR×aD))(f:Nat):Option (PV×aD):=match x,y with
 |some (x,r),some (y,s)=>some (.fn f x y,r++s)
 |_,_=>none
def zq1{x y:dR}{r s:aD}{f:Nat}:asQ (some (x,r)) (some (y,s)) f=some (.fn f x y,r++s):=rfl
def aHC{blk:aH}{f:Nat}{a b:eC}:gC blk jK (.hfn f a b)=asQ (iP (gC blk 5) a) (iP (gC blk 5) b) f:=by unfold jK;rfl
def aHB{blk:aH}{id g:Nat}:gC blk (n+1) (.aW id g H)=UQ (blk id) (iP (gC blk n)) id g H:=by rw[gC];rfl
def aHI{blk:aH}{id g len:Nat}:gC blk (n+1) (.hsl id g z H len)=TE (blk id) (iP (iP (gC blk n))) id g H len:=by rw[gC];rfl
def aK{b:Bool}(h:b:=by kernel_rfl):b:=h
def ba{f:Nat}{fn:aS}{A:dG}{r:RV}(hf:S.fns f=some fn)(h:W S .all fn.body (rU .all fn.results λv blk=>iD blk v=some r) (tW A) CL)(hp:S.prim f A=none:=by rfl)(hl:I A<=fn.ntmps:=by exact jg rfl):aC S f A r:=aFi hp hf hl h
def kE:¬((2:Int)=0):=aa
def tu(a b:Nat):(a:Int).tmod b=((a%b:Nat):Int):=by rw[Int.tmod_eq_emod_of_nonneg J];rfl
def tf(a:Nat):(a:Int).tmod 2=((a%2:Nat):Int):=tu a 2
def n_(a:Nat):(a:Int).tdiv 2=((a/2:Nat):Int):=by rw[ae2 J];rfl
def ek:¬((n:Int)<(n:Int)):=J
def aHJ(l:U):I l.ps=6:=rfl
def zq2{blk:aH}{all:aD}:xh blk all []=some []:=rfl
attribute [go_sem] aHC zq1 aHB aHI zq2
def m_(g:Int)(l:U):Bool:=l.ay&&l.gate==g
def qm(g:Int)(l:U):Bool:=l.au&&l.id==g
def ad9(f:Int)(h:ae)(hl:I h<=1000000):aC S 73 [c7 f h] (fH (aq U.ay h)):=by
 refine ba aGI ?_;simp only[go_sem,ans];refine cZ (λk m _=>m 7=.one (.p (fz h))/\m 8=ai (I h)/\m 9=ai k/\m 3=ai (aq U.ay (h.take k))) 0 (I h) (bj _) ?_ ?_
 .simp only[go_sem];exact⟨rfl,rfl⟩
 rintro k m blk L ⟨B,j,u,H⟩
 by_cases A:k<I h
 .obtain⟨l,D⟩:=aP A;have y:=fW D;have z:((k:Int)<(I h:Int)):=J;have F:=B8 (U.ay) h k;have x:=cg (n:=k) J;have E:=cg (n:=aq (U.ay) (h.take k)) J;cases hp:(l.kind==1)
  case' true=>have v:=uY (p:=U.ay) D hp
  case' false=>have v:=lZ (p:=U.ay) D hp
  all_goals
   simp only[go_sem,Xx,H,B,j,u,y,U.ps,z,x,E,hp,v];first|exact A|exact⟨A,rfl⟩
 have:k=I h:=J;subst this;rw[lN]at H;simp only[go_sem,Xx,aqs,H,j,u,ek]
def ad0(f:Int)(h:ae)(hl:I h<=1000000):aC S 112 [c7 f h] (fH (aq U.au h)):=by
 refine ba aqS ?_;simp only[go_sem,aoC];refine cZ (λk m _=>m 7=.one (.p (fz h))/\m 8=ai (I h)/\m 9=ai k/\m 3=ai (aq U.au (h.take k))) 0 (I h) (bj _) ?_ ?_
 .simp only[go_sem];exact⟨rfl,rfl⟩
 rintro k m blk L ⟨B,j,u,H⟩
 by_cases A:k<I h
 .obtain⟨l,D⟩:=aP A;have y:=fW D;have z:((k:Int)<(I h:Int)):=J;have F:=B8 (U.au) h k;have x:=cg (n:=k) J;have E:=cg (n:=aq (U.au) (h.take k)) J;cases hp:(l.kind==2)
  case' true=>have v:=uY (p:=U.au) D hp
  case' false=>have v:=lZ (p:=U.au) D hp
  all_goals
   simp only[go_sem,abS,H,B,j,u,y,U.ps,z,x,E,hp,v]
   grind
 have:k=I h:=J;subst this;rw[lN]at H;simp only[go_sem,abS,akk,H,j,u,ek]
def am2(f:Int)(h:ae)(hl:I h<=1000000):aC S 74 [c7 f h] (fH ((aq U.au h/2:Nat))):=by
 have H:=ny U.au h;have E:IntKind.i64.wrap ((aq U.au h:Int).tdiv 2)=((aq U.au h/2:Nat):Int):=by
  have:(aq U.au h:Int).tdiv 2=((aq U.au h/2:Nat):Int):=by rw[ae2 J];omega
  rw[this];exact wrap_small J
 refine ba aq3 ?_;simp only[go_sem,alN,J4,ie (ad0 f h hl),E,(by decide:¬(2:Int)=0)]
def ai3(f:Int)(h:ae)(hl:I h<=1000000):aC S 38 [c7 f h] (fH (aq U.ay h)):=by
 refine ba awe ?_;simp only[go_sem,afX];refine cZ (λk m blk=>m 1=.one (.aW 2432000000 1 0)/\blk 2432000000=(1,some (.var (pF f h)))/\m 4=ai k/\m 3=ai (aq U.ay (h.take k))) 0 (I h) (bj _) ?_ ?_
 .simp only[go_sem]
  grind
 rintro k m blk E ⟨j,H,Q,L⟩
 by_cases A:k<I h
 .obtain⟨l,D⟩:=aP A;have x:=fW D;have y:((k:Int)<(I h:Int)):=J;have B:=B8 (U.ay) h k;have v:=cg (n:=k) J;have z:=cg (n:=aq (U.ay) (h.take k)) J;cases hp:(l.kind==1)
  case' true=>have u:=uY (p:=U.ay) D hp
  case' false=>have u:=lZ (p:=U.ay) D hp
  all_goals
   simp only[go_sem,aeo,j,H,Q,L,x,U.ps,y,v,z,hp,u]
   grind
 have:k=I h:=J;subst this;rw[lN]at L;simp only[go_sem,aeo,aqe,j,H,Q,L,ek]
def X3(f:Int)(h:ae)(hl:I h<=1000000):aC S 37 [c7 f h] (fH (aq U.au h)):=by
 refine ba auf ?_;simp only[go_sem,i37];refine cZ (λk m blk=>m 1=.one (.aW 2368000000 1 0)/\blk 2368000000=(1,some (.var (pF f h)))/\m 4=ai k/\m 3=ai (aq U.au (h.take k))) 0 (I h) (bj _) ?_ ?_
 .simp only[go_sem]
  grind
 rintro k m blk E ⟨j,H,Q,L⟩
 by_cases A:k<I h
 .obtain⟨l,D⟩:=aP A;have x:=fW D;have y:((k:Int)<(I h:Int)):=J;have B:=B8 (U.au) h k;have v:=cg (n:=k) J;have z:=cg (n:=aq (U.au) (h.take k)) J;cases hp:(l.kind==2)
  case' true=>have u:=uY (p:=U.au) D hp
  case' false=>have u:=lZ (p:=U.au) D hp
  all_goals
   simp only[go_sem,Z2,j,H,Q,L,x,U.ps,y,v,z,hp,u]
   grind
 have:k=I h:=J;subst this;rw[lN]at L;simp only[go_sem,Z2,af8,j,H,Q,L,ek]
def Oy(f:Int)(h:ae)(hl:I h<=1000000):aC S 32 [c7 f h] (fH ((aq U.au h/2:Nat))):=by
 have H:=ny U.au h;have E:IntKind.i64.wrap ((aq U.au h:Int).tdiv 2)=((aq U.au h/2:Nat):Int):=by
  have:(aq U.au h:Int).tdiv 2=((aq U.au h/2:Nat):Int):=by rw[ae2 J];omega
  rw[this];exact wrap_small J
 refine ba aGK ?_;simp only[go_sem,apf,CB,ie (X3 f h hl),E,(by decide:¬(2:Int)=0)]
def V7(f:Int)(h:ae)(hl:I h<=1000000)(g:Int):aC S 35 [c7 f h,ai g] (fH (aq (m_ g) h)):=by
 refine ba ars ?_;simp only[go_sem,aob];refine cZ (λk m blk=>m 2=.one (.aW 2240000000 1 0)/\blk 2240000000=(1,some (.var (pF f h)))/\m 6=ai k/\m 5=ai (aq (m_ g) (h.take k))/\m 1=ai g) 0 (I h) (bj _) ?_ ?_
 .simp only[go_sem];first|exact⟨rfl,rfl⟩|exact _
 rintro k m blk M ⟨j,u,Q,L,x⟩
 by_cases A:k<I h
 .obtain⟨l,D⟩:=aP A;have y:=fW D;have z:((k:Int)<(I h:Int)):=J;have F:=B8 ((m_ g)) h k;have v:=cg (n:=k) J;have E:=cg (n:=aq ((m_ g)) (h.take k)) J;cases hp:(l.kind==1)with
  |true=>
   cases H:(l.gate==g)
   case' true=>have B:=uY (p:=(m_ g)) D (by simp only[m_,U.ay,hp,H];rfl)
   case' false=>have B:=lZ (p:=(m_ g)) D (by simp only[m_,U.ay,hp,H];rfl)
   all_goals
    simp only[go_sem,Vh,j,u,Q,L,y,U.ps,z,v,E,x,hp,H,B];first|exact A|exact _
  |false=>simp only[go_sem,Vh,j,u,Q,L,y,U.ps,z,v,x,hp,lZ (p:=(m_ g)) D (by simp only[m_,U.ay,hp];rfl)];first|exact A|exact⟨A,rfl⟩
 have:k=I h:=J;subst this;rw[lN]at L;simp only[go_sem,Vh,ajF,j,u,Q,L,ek]
def aDz(f:Int)(h:ae)(hl:I h<=1000000)(g:Int):aC S 69 [c7 f h,ai g] (fH (aq (qm g) h)):=by
 refine ba aE4 ?_;simp only[go_sem,ag7];refine cZ (λk m blk=>m 2=.one (.aW 4416000000 1 0)/\blk 4416000000=(1,some (.var (pF f h)))/\m 6=ai k/\m 5=ai (aq (qm g) (h.take k))/\m 1=ai g) 0 (I h) (bj _) ?_ ?_
 .simp only[go_sem];first|exact⟨rfl,rfl⟩|exact _
 rintro k m blk M ⟨j,u,Q,L,x⟩
 by_cases A:k<I h
 .obtain⟨l,D⟩:=aP A;have y:=fW D;have z:((k:Int)<(I h:Int)):=J;have F:=B8 ((qm g)) h k;have v:=cg (n:=k) J;have E:=cg (n:=aq ((qm g)) (h.take k)) J;cases hp:(l.kind==2)with
  |true=>
   cases H:(l.id==g)
   case' true=>have B:=uY (p:=(qm g)) D (by simp only[qm,U.au,hp,H];rfl)
   case' false=>have B:=lZ (p:=(qm g)) D (by simp only[qm,U.au,hp,H];rfl)
   all_goals
    simp only[go_sem,Xh,j,u,Q,L,y,U.ps,z,v,E,x,hp,H,B];first|exact A|exact _
  |false=>simp only[go_sem,Xh,j,u,Q,L,y,U.ps,z,v,x,hp,lZ (p:=(qm g)) D (by simp only[qm,U.au,hp];rfl)];first|exact A|exact⟨A,rfl⟩
 have:k=I h:=J;subst this;rw[lN]at L;simp only[go_sem,Xh,ams,j,u,Q,L,ek]
def dn (h:ae)(i:Nat):Bool:=aq U.ay (h.take i)%2==0
def J_(f:Int)(h:ae)(i:Nat)(hl:I h<=1000000)(M:i<=I h):aC S 102 [c7 f h,ai i] (cK (dn h i)):=by
 refine ba ayG ?_;simp only[go_sem,agT];refine cZ (λk m blk=>m 1=ai i/\m 2=.one (.aW 6528000000 1 0)/\blk 6528000000=(1,some (.var (pF f h)))/\m 6=ai k/\m 5=ai (aq U.ay (h.take k))) 0 i (bj _) ?_ ?_
 .simp only[go_sem];exact⟨rfl,rfl⟩
 rintro k m blk N ⟨H,v,z,Q,L⟩
 have F:=B8 U.ay h k;by_cases A:k<i
 .obtain⟨l,D⟩:=aP (h:=h) (k:=k) J;have x:=fW D;have y:((k:Int)<(i:Int)):=J;have u:=cg (n:=k) J;have B:=cg (n:=aq U.ay (h.take k)) J;cases hp:(l.kind==1)
  case' true=>have j:=uY (p:=U.ay) D hp
  case' false=>have j:=lZ (p:=U.ay) D hp
  all_goals
   simp only[go_sem,ael,H,v,z,Q,L,x,U.ps,y,u,B,hp,j];exact A
 have:k=i:=J;subst this;have E:((((aq U.ay (h.take k))%2:Nat):Int)==0)=dn h k:=by
  unfold dn
  grind
 simp only[go_sem,ael,ap0,H,Q,L,ek,kE,tf,E]
def asd(a b:U):aC S 106 [.agg (a.ps.map .p),.agg (b.ps.map .p)] (cK (decide (a.gate<b.gate)||(a.gate==b.gate&&decide (a.ao<b.ao)))):=by
 refine ba aB2 ?_;by_cases h:a.gate<b.gate
 .simp only[go_sem,SZ,U.ps,h]
 cases H:(a.gate==b.gate)with
 |true=>simp only[go_sem,SZ,U.ps,h,H]
 |false=>simp only[go_sem,SZ,U.ps,h,H]
def dS(n i:Nat)(u:Bool):Nat:=if u then 2*i else 2*((i+n-1)%n)+1
def ZO(f:Int)(h:ae)(i:Nat)(u:Bool)(hl:I h<=1000000)(z:i<I h):aC S 107 [c7 f h,ai i,iB u] (fH (dS (I h) i u)):=by
 refine ba ayI ?_;cases u with
 |true=>have e:IntKind.i64.wrap (2*(i:Int))=((2*i:Nat):Int):=wrap_small (n:=2*i) J;simp only[go_sem,XS,e,dS]
 |false=>
  have j:IntKind.i64.wrap ((i:Int)+(I h:Int))=((i+I h:Nat):Int):=wrap_small J;have x:IntKind.i64.wrap (((i+I h:Nat):Int)-1)=((i+I h-1:Nat):Int):=by have:(((i+I h:Nat):Int)-1)=((i+I h-1:Nat):Int):=J;rw[this];exact wrap_small J
  have E:=tu (i+I h-1) (I h);have y:=dB (i+I h-1) (show 0<I h by omega);have v:IntKind.i64.wrap (2*(((i+I h-1)%I h:Nat):Int))=((2*((i+I h-1)%I h):Nat):Int):=wrap_small (n:=2*((i+I h-1)%I h)) J;have m:=cg (n:=2*((i+I h-1)%I h)) J;have H:¬((I h:Int)=0):=J;simp only[go_sem,XS,j,x,E,v,m,H,dS]
def Cr(h:ae)(i j:Nat):Bool:=j !=i&&(match h[j]? with|some l=>l.au&&l.id==((h[i]?).map U.id).getD 0|none=>false)
def iV(h:ae)(i:Nat):Nat:=((List.range (I h)).find? (Cr h i)).getD i
def CC{p:Nat->Bool}:∀ {n k:Nat},k<n->(∀j,j<k->p j=false)->p k->(List.range n).find? p=some k:=by simp_all
def I7{p:Nat->Bool}(h:∀j,j<n->p j=false):(List.range n).find? p=none:=by grind
def asf(f:Int)(h:ae)(i:Nat)(hl:I h<=1000000)(ER:i<I h):aC S 108 [c7 f h,ai i] (fH (iV h i)):=by
 obtain⟨X,T⟩:=aP ER;have R:=fW T;have F:∀j l,h[j]?=some l->Cr h i j=(j !=i&&(l.au&&l.id==X.id)):=λj l Y=>by simp[Cr,Y,T]
 refine ba awj ?_;simp only[go_sem,agR];refine cZ (λk m blk=>m 1=ai i/\m 2=.one (.aW 6912000000 1 0)/\blk 6912000000=(1,some (.var (pF f h)))/\m 5=ai k/\ ∀j,j<k->Cr h i j=false) 0 (I h) (bj _) ?_ ?_
 .simp only[go_sem];exact⟨rfl,λj Y=>absurd Y (oJ j)⟩
 rintro k m blk hk ⟨v,x,y,Q,M⟩
 by_cases A:k<I h
 .obtain⟨l,O⟩:=aP A;have L:=fW O;have z:((k:Int)<(I h:Int)):=J;have E:=cg (n:=k) J;have D:=F k l O;have step:Cr h i k=false->∀j,j<k+1->Cr h i j=false:=λY j hj=>by
   rcases vq.1 hj with Z|rfl
   .exact M j Z
   exact Y
  by_cases H:k=i
  .have u:((k:Int)!=(i:Int))=false:=by simp[H]
   simp only[go_sem,Mz,v,x,y,Q,z,E,u];exact⟨ah,A,step (by rw[D];simp[H])⟩
  have u:((k:Int)!=(i:Int)):=fd
  have N:(k !=i):=mt
  cases hp:(l.kind==2)with
  |false=>simp only[go_sem,Mz,v,x,y,Q,L,U.ps,z,E,u,hp];exact⟨ah,A,step (by rw[D,N,U.au,hp];rfl)⟩
  |true=>
   cases B:(l.id==X.id)with
   |false=>simp only[go_sem,Mz,v,x,y,Q,L,R,U.ps,z,E,u,hp,B];exact⟨ah,A,step (by rw[D,N,U.au,hp,B];rfl)⟩
   |true=>
    have hf:iV h i=k:=by unfold iV;rw[CC A M (by rw[D,N,U.au,hp,B];rfl)];rfl
    simp only[go_sem,Mz,v,x,y,Q,L,R,U.ps,z,u,hp,B,hf];show qI _ _ _=true
    kernel_rfl
 have:k=I h:=J;subst this;have hf:iV h i=i:=by unfold iV;rw[I7 M];rfl
 simp only[go_sem,Mz,al5,v,x,y,Q,ek,hf]
abbrev uX(l:aD):PV:=.sl (l.map λn:Nat=>[.int .i64 (n:Int)])
def aC5(l:aD)(n f:Nat)(hl:I l<=1000000)(y:l[f]?=some n)(L:∀j,j<f->l[j]? ≠some n):aC S 109 [.one (.p (uX l)),ai n] (fH f):=by
 have H:=(bN.1 y).1;refine ba aiP ?_;simp only[go_sem,abV];refine cZ (λk m blk=>m 0=.one (.p (uX l))/\m 1=ai n/\m 5=ai k) 0 f (bj _) ?_ ?_
 .simp only[go_sem];rfl
 rintro k m blk N ⟨u,z,B⟩
 have A:((k:Int)<(I l:Int)):=J;have D:=cg (n:=k) J;obtain⟨M,x⟩:=aP (h:=l) (k:=k) J;have v:(l.map λn:Nat=>[PV.int .i64 (n:Int)])[k]?=some [.int .i64 (M:Int)]:=by simp[x]
 by_cases F:k<f
 .have E:((M:Int)==(n:Int))=false:=by
   grind
  simp only[go_sem,MI,u,z,B,A,D,v,E];exact F
 have:k=f:=J;subst this;have e:M=n:=by rw[x]at y;exact mQ y
 subst e;simp only[go_sem,MI,u,z,B,A,v]
abbrev yk(l:U):V:=.agg [.p (.int .i64 l.kind),.p (.int .i64 l.gate),.p (.int .i64 l.ao),.p (.int .i64 l.id),.p (.int .i64 l.sign),.p (.bool l.over)]
def Jr(a b:U):Bool:=decide (a.gate<b.gate)||(a.gate==b.gate&&decide (a.ao<b.ao))
def aBP(a b:U):aC S 106 [yk a,yk b] (cK (Jr a b)):=asd a b
abbrev aY(o:aD):dy:=o.map λn:Nat=>[PV.int .i64 (n:Int)]
def i_{o:aD}{k:Nat}(h:o[k]?=some n):(aY o)[k]?=some [.int .i64 (n:Int)]:=by simp[h]
def I_(h:ae)(i j:Nat):Bool:=match h[j]?,h[i]? with
 |some a,some b=>Jr a b
 |_,_=>false
def EE(h:ae)(o:aD)(i:Nat):aD:=o.take (I (o.takeWhile (I_ h i)))++i::o.drop (I (o.takeWhile (I_ h i)))
def DA(h:ae)(o:aD)(i:Nat):aD:=match h[i]? with
 |some l=>if l.ay then EE h o i else o
 |none=>o
def aA(h:ae):aD:=(List.range (I h)).foldl (DA h) []
def uc(h:ae)(k:Nat):aD:=(List.range k).foldl (DA h) []
theorem Mu(h:ae)(k:Nat):uc h (k+1)=DA h (uc h k) k:=by unfold uc;rw[mJ,Bq];rfl
def awW{h:ae}{o:aD}{i:Nat}(H:x∈DA h o i):x∈o\/x=i:=by grind [DA,EE]
def Xk{h:ae}:∀ {k x:Nat},x∈uc h k->x<k:=by
 intro k
 induction k with
 |zero=>intro x H;simp[uc]at H
 |succ k f=>
  intro x H;rw[Mu]at H;rcases awW H with H|H
  .have:=f H;omega
  omega
def qp(h:ae):∀k,I (uc h k)<=k:=by
 intro k
 induction k with
 |zero=>simp[uc]
 |succ k f=>grind [Mu,DA,EE]
def IQ(f:Nat)(o:aD)(v:V)(blk:aH):Prop:=(o=[]/\v=.one (.p .nils))\/(o≠[]/\ ∃g,v=.one (.hsl f g 1 0 (I o))/\blk f=(g,some (.arr 3 1 (aY o))))
def auX{o:aD}{i bJ:Nat}{blk:aH}(F:IQ 4480576640 o (m 3) blk)(z:m 4=ai i)(D:m 5=ai bJ)(O:bJ<=I o)(hl:I o<=1000000)
  (y:∀A j,A 1=m 1->A 4=m 4->j 4480000000=blk 4480000000->IQ 4480576640 (o.take bJ++i::o.drop bJ) (A 3) j->Q .normal A j):
  W S .all Jk Q m blk:=by
 rcases F with⟨rfl,H⟩|⟨F,g,H,M⟩
 .have h:bJ=0:=by simpa using O
  subst h;simp only[go_sem,Jk,H,z,D,jl,gk];refine⟨ah,y _ _ ?_ ?_ ?_ (.inr ⟨aG,(blk 4480576640).1+1,?_,?_⟩)⟩;all_goals simp only[go_sem]
 have N:∀n:Nat,n<=1000001->n*8<=140737488355328:=λn Y=>J;by_cases h:bJ=0
 .subst h;have f:List.take (I o) (aY o)=aY o:=eT aG;have L:=N (1+I o) J;simp only[go_sem,Jk,H,z,D,M,f,L,jl,gk];refine⟨ah,y _ _ ?_ ?_ ?_ (.inr ⟨aG,g+1,?_,?_⟩)⟩;all_goals simp only[go_sem]
  simp;omega
 have f:I (List.take bJ (aY o))=bJ:=fd
 have u:List.take bJ (List.take bJ (aY o))=List.take bJ (aY o):=by rw[Gi,Nat.min_self]
 have R:List.take (bJ+1) (List.take bJ (aY o)++[[PV.int .i64 (i:Int)]])=List.take bJ (aY o)++[[PV.int .i64 (i:Int)]]:=eT fd;have E:List.take (I o-bJ) (List.drop bJ (aY o))=List.drop bJ (aY o):=eT aG;have x:I (List.drop bJ (aY o))=I o-bJ:=aG;have X:I (List.take bJ (aY o)++[[PV.int .i64 (i:Int)]])=bJ+1:=fd
 have L:=N bJ J;have T:=N (bJ+1) J;have v:=N (bJ+1+(I o-bJ)) J;have B:bJ+(I o-bJ)<=I o:=J;simp only[go_sem,Jk,H,z,D,M,O,f,h,L,T,v,u,R,E,x,X,B,jl,gk];refine⟨ah,y _ _ ?_ ?_ ?_ (.inr ⟨aG,g+1,?_,?_⟩)⟩;all_goals simp only[go_sem]
 .simp;omega
 simp
theorem aDX{α:Type}{p:α->Bool}{l:List α}{bJ:Nat}(h:bJ<=I l)(H:∀j x,j<bJ->l[j]?=some x->p x)(f:∀x,l[bJ]?=some x->p x=false):I (l.takeWhile p)=bJ:=by
 induction l generalizing bJ with
 |nil=>simp at h |-;omega
 |cons a l m=>
  cases bJ with
  |zero=>simp_all
  |succ bJ=>have:=H 0 a J rfl;simp[List.takeWhile,this,fF];rw[m Do (λj x u n=>H (j+1) x J ii) (λx n=>f x ii)]
def aBc{h:ae}{f:Int}{o:aD}{i:Nat}{X:U}{blk:aH}(L:IQ 4480576640 o (m 3) blk)(h1:m 1=.one (.aW 4480000000 1 0))(hB:blk 4480000000=(1,some (.var (pF f h))))(h4:m 4=ai i)(h5:m 5=ai 0)
  (vg:h[i]?=some X) (aw:∀x∈o,x<I h) (hl:I o<=1000000)
  (hq:∀A u,A 1=m 1->A 4=m 4->u 4480000000=blk 4480000000->IQ 4480576640 (EE h o i) (A 3) u->Q .normal A u):
  W S .all (.loop P9) (oh 2 (vn S .all Jk Q)) m blk:=by
 have iY:=fW vg;refine cZ (λk A u=>A 1=m 1/\A 4=m 4/\A 3=m 3/\u=blk/\A 5=ai k/\ ∀j x,j<k->o[j]?=some x->I_ h i x) 0 (I o) (bj _) ?_ ?_
 .exact⟨rfl,rfl,rfl,rfl,h5,λj x O=>absurd O (oJ j)⟩
 rintro k A u hk ⟨E,z,v,rfl,M,hp⟩
 rw[h1]at E;rw[h4]at z;have fin:∀e:bP,e 1=A 1->e 4=A 4->e 3=A 3->e 5=A 5->(∀x,o[k]?=some x->I_ h i x=false)->W S .all Jk Q e u:=by
  intro e e1 e4 e3 e5 kJ;refine auX (by rw[e3,v];exact L) (by rw[e4,z]) (by rw[e5,M]) hk hl ?_
  grind [EE,aDX]
 by_cases R:k<I o
 .obtain⟨x,B⟩:=aP R;obtain⟨lx,D⟩:=aP (aw x (a8 B));have nT:=fW D;have yF:=i_ B;have aL:((k:Int)<(I o:Int)):=J;have F:I_ h i x=Jr lx X:=by simp[I_,D,vg]
  have Y:=aBP lx X;rcases L with⟨rfl,_⟩|⟨L,g,N,Z⟩
  .simp at R
  rw[N]at v;cases T:Jr lx X with
  |true=>
   rw[T]at Y;simp only[go_sem,P9,h1,N,h4,E,v,z,M,hB,Z,aL,yF,nT,iY,U.ps,R,cg (n:=k) J,apI,mA Y];refine⟨ah,λj y O H=>?_⟩;rcases vq.1 O with O|rfl
   .exact hp j y O H
   rw[B]at H;cases H;rw[F,T]
  |false=>rw[T]at Y;simp only[go_sem,P9,E,v,z,M,hB,Z,aL,yF,nT,iY,U.ps,R,apI,mA Y];refine⟨ah,fin _ ?_ ?_ ?_ ?_ (λy H=>by rw[B]at H;cases H;rw[F,T])⟩;all_goals simp only[go_sem,E,v,z,M]
 have:k=I o:=J;subst this;rcases L with⟨rfl,N⟩|⟨L,g,N,Z⟩
 all_goals
  rw[N]at v;simp only[go_sem,P9,v,M,ek];refine⟨ah,fin _ ?_ ?_ ?_ ?_ (λx B=>by simp at B)⟩;all_goals simp only[go_sem,E,v,z,M]
theorem awE(h:ae)(o:aD)(i:Nat):I (EE h o i)=I o+1:=by grind [EE]
def Ig{blk:aH}{id g len T:Nat}{E:dy}(h:blk id=(g,some (.arr T z E)))(hl:len=I E):iD blk (.one (.hsl id g z 0 len))=some (.one (.own T z E)):=by subst hl;simp only[iD,mM,kZ,kD,iN,h,cP,and_self,if_true,lN];rfl
def RH(o:aD):nM:=if o=[]then .p .nils else .own 3 1 (aY o)
def ahm(f:Int)(h:ae)(hl:I h<=1000000):aC S 70 [c7 f h] (.one (RH (aA h))):=by
 refine ba awx ?_;simp only[go_sem,aik];refine cZ (λk m blk=>m 1=.one (.aW 4480000000 1 0)/\blk 4480000000=(1,some (.var (pF f h)))/\m 4=ai k/\IQ 4480576640 (uc h k) (m 3) blk) 0 (I h) (bj _) ?_ ?_
 .simp only[go_sem];exact⟨rfl,.inl ⟨rfl,rfl⟩⟩
 rintro k m blk X ⟨y,z,v,j⟩
 have Y:=qp h k;by_cases A:k<I h
 .obtain⟨l,D⟩:=aP A;have L:=fW D;have E:((k:Int)<(I h:Int)):=J;have B:=cg (n:=k) J;have af:=Mu h k;unfold DA at af;rw[D]at af;cases hp:(l.kind==1)with
  |false=>
   have O:(l.kind !=1):=aIn
   simp only[U.ay,hp]at af;have af:=af;simp only[go_sem,OS,acj,y,z,v,L,U.ps,E,O,B,af,A];rcases j with⟨e,H⟩|⟨j,g,H,u⟩
   .exact .inl ⟨e,by simp only[go_sem,H]⟩
   exact .inr ⟨j,g,by simp only[go_sem,H],by simp only[go_sem,u]⟩
  |true=>
   have O:(l.kind !=1)=false:=aIn
   simp only[U.ay,hp]at af;have af:=af;simp only[go_sem,OS,y,z,v,L,U.ps,E,O];refine aBc (f:=f) (o:=uc h k) ?_ ?_ ?_ ?_ ?_ D (λx R=>Nat.lt_trans (Xk R) A) J ?_
   .rcases j with⟨e,H⟩|⟨j,g,H,u⟩
    .exact .inl ⟨e,by simp only[go_sem,H]⟩
    exact .inr ⟨j,g,by simp only[go_sem,H],by simp only[go_sem,u]⟩
   .simp only[go_sem,y]
   .simp only[go_sem,z]
   .simp only[go_sem,v]
   .rfl
   intro Z ak Q M F N;simp only[go_sem,y,v,z]at Q M F;simp only[go_sem,acj,Q,M,F,B,af,A];rcases N with⟨e,H⟩|⟨j,g,H,u⟩
   .exact .inl ⟨e,by simp only[go_sem,H]⟩
   exact .inr ⟨j,g,by simp only[go_sem,H],by simp only[go_sem,u]⟩
 have:k=I h:=J;subst this;have T:aA h=uc h (I h):=rfl;rw[<-T]at j;rcases j with⟨e,H⟩|⟨j,g,H,u⟩
 .simp only[go_sem,OS,aay,y,z,H,v,ek,RH,e]
 simp only[go_sem,OS,aay,y,z,H,v,ek,RH,j];exact Ig u aG
def jd(h:ae)(ax:aD)(d:Nat):Nat:=
 if 2*I h<=d then
  if d%2=0 then dS (I h) (ax.getD (((d-2*I h)/2+1)%I ax) 0) (!dn h (ax.getD (((d-2*I h)/2+1)%I ax) 0))
  else dS (I h) (ax.getD ((d-2*I h)/2) 0) (dn h (ax.getD ((d-2*I h)/2) 0))
 else
  let u:=d%2==0
  let v:=if u then(d/2+1)%I h else d/2
  match h[v]? with
  |none=>0
  |some l=>if l.kind==2 then dS (I h) (iV h v) (u==(l.over==(l.sign==1)))
   else if dn h v==u then 2*I h+2*ax.idxOf v else 2*I h+2*((ax.idxOf v+I ax-1)%I ax)+1
def ap9{h:ae}{i:Nat}(H:i<I h):iV h i<I h:=by
 unfold iV;cases f:(List.range (I h)).find? (Cr h i)with
 |none=>exact H
 |some k=>grind
def C4{i:Nat}(h:i<n):dS n i u<2*n:=by unfold dS;have:=dB (i+n-1) (show 0<n by omega);split<;>omega
def Wd{h:ae}{ax:aD}{d:Nat}(kG:∀x∈ax,x<I h)(hp:∀v l,h[v]?=some l->(l.kind==2)=false->v∈ax)(y:d<2*I h+2*I ax):jd h ax d<2*I h+2*I ax:=by
 have n:∀k,k<I ax->ax.getD k 0<I h:=λk H=>by obtain⟨x,m⟩:=aP H;rw[dM,m];exact kG x (a8 m)
 unfold jd;by_cases u:2*I h<=d
 .rw[aI u];by_cases j:d%2=0
  .rw[aI j];exact CD (C4 (n _ (dB ((d-2*I h)/2+1) J))) J
  rw[aE j];exact CD (C4 (n _ J)) J
 rw[aE u];have f:(if(d%2==0)=true then(d/2+1)%I h else d/2)<I h:=by
  split
  .exact dB _ J
  omega
 simp only;generalize(if(d%2==0)=true then(d/2+1)%I h else d/2)=v at f;obtain⟨l,hl⟩:=aP f;rw[hl];simp only;by_cases H:(l.kind==2)
 .rw[aI H];exact CD (C4 (ap9 f)) J
 rw[aE H];have A:=List.idxOf_lt_length_iff.2 (hp v l hl rg);have z:=dB (ax.idxOf v+I ax-1) (show 0<I ax by omega);split<;>omega
def azk{ax:aD}:∀j,j<ax.idxOf v->ax[j]? ≠some v:=by
 induction ax with
 |nil=>intro j h;simp at h
 |cons a ax f=>grind
theorem aqy{ax:aD}(h:v∈ax):ax[ax.idxOf v]?=some v:=ii
def aFb(f:Int)(h:ae)(ax:aD)(d:Nat)(hl:I h<=1000000)(jD:I ax<=1000000)(kG:∀x∈ax,x<I h)(hp:∀v l,h[v]?=some l->(l.kind==2)=false->v∈ax)
  (hd:d<2*I h+2*I ax):aC S 71 [c7 f h,.one (.p (uX ax)),ai d] (fH (jd h ax d)):=by
 have D:IntKind.i64.wrap (2*(I h:Int))=((2*I h:Nat):Int):=wrap_small (n:=2*I h) J;unfold jd;by_cases ab:2*I h<=d
 .rw[aI ab];refine ba afh ?_;have A:((2*I h:Nat):Int)<=(d:Int):=J;have m2:IntKind.i64.wrap ((d:Int)-((2*I h:Nat):Int))=((d-2*I h:Nat):Int):=by
   have:((d:Int)-((2*I h:Nat):Int))=((d-2*I h:Nat):Int):=J;rw[this];exact wrap_small J
  have M:=wrap_small (n:=(d-2*I h)/2) J;have hm:=dB ((d-2*I h)/2+1) (show 0<I ax by omega);have X:¬((I ax:Int)=0):=J;by_cases L:d%2=0
  .rw[aI L];have E:=cg (n:=(d-2*I h)/2) J;have Y:(((d%2:Nat):Int)==0):=by simp[L]
   have B:=tu ((d-2*I h)/2+1) (I ax);obtain⟨v,H⟩:=aP hm;have T:ax.getD (((d-2*I h)/2+1)%I ax) 0=v:=by rw[dM,H];rfl
   rw[T];have z:=kG v (a8 H);have R:=i_ H;have j:=J_ f h v hl J;have m:=ZO f h v (!dn h v) hl z;simp only[go_sem,OX,D,m2,M,E,B,A,Y,R,X,tf,n_,kE,GS,Z5,mA j,jZ m];exact aK
  rw[aE L];have Y:(((d%2:Nat):Int)==0)=false:=fd
  obtain⟨v,H⟩:=aP (h:=ax) (k:=(d-2*I h)/2) J;have T:ax.getD ((d-2*I h)/2) 0=v:=by rw[dM,H];rfl
  rw[T];have z:=kG v (a8 H);have R:=i_ H;have j:=J_ f h v hl J;have m:=ZO f h v (dn h v) hl z;simp only[go_sem,OX,D,m2,M,A,Y,R,tf,n_,kE,GS,Z5,mA j,jZ m];exact aK
 rw[aE ab];have A:¬(((2*I h:Nat):Int)<=(d:Int)):=J;have M:=wrap_small (n:=d/2) J;have jq:¬((I h:Int)=0):=J;have X:=dB (d/2+1) (show 0<I h by omega);have E:=cg (n:=d/2) J;have B:=tu (d/2+1) (I h);have body:∀v:Nat,v<I h->∀u:Bool,v=(if u then(d/2+1)%I h else d/2)->(d%2==0)=u->(((d%2:Nat):Int)==0)=u->aC S 71 [c7 f h,.one (.p (uX ax)),ai d] (fH ((match h[v]? with
   |none=>0
   |some l=>if l.kind==2 then dS (I h) (iV h v) (u==(l.over==(l.sign==1)))
    else if dn h v==u then 2*I h+2*ax.idxOf v else 2*I h+2*((ax.idxOf v+I ax-1)%I ax)+1:Nat):Int)):=by
  intro v H u Q Ch Qs;obtain⟨l,Z⟩:=aP H;have O:=fW Z;rw[Z];simp only;refine ba afh ?_;cases N:(l.kind==2)with
  |true=>
   have po:=asf f h v hl H;have m:=ZO f h (iV h v) (u==(l.over==(l.sign==1))) hl (ap9 H);cases u
   case' true=>have Q:v=(d/2+1)%I h:=Q
   case' false=>have Q:v=d/2:=Q
   all_goals
    rw[Q]at O po m |-;simp only[go_sem,OX,D,M,E,B,A,Qs,O,U.ps,jq,N,tf,n_,kE,aFP,Z5,jZ po,jZ m];exact aK
  |false=>
   have kh:=hp v l Z N;have Kl:ax.idxOf v<I ax:=List.idxOf_lt_length_iff.2 kh;have F:=aC5 ax v (ax.idxOf v) jD (aqy kh) azk;have j:=J_ f h v hl J;have ZC:¬((I ax:Int)=0):=J;have iX:=dB (ax.idxOf v+I ax-1) (show 0<I ax by omega);have n1:=qj (a:=ax.idxOf v) J;have y:=uh (a:=2*I h) (b:=2*ax.idxOf v) J;have n3:=uh (a:=ax.idxOf v) (b:=I ax) J;have n4:=EU (a:=ax.idxOf v+I ax) J J;have n5:=tu (ax.idxOf v+I ax-1) (I ax);have n6:=qj (a:=(ax.idxOf v+I ax-1)%I ax) J;have n7:=uh (a:=2*I h) (b:=2*((ax.idxOf v+I ax-1)%I ax)) J
   have n8:=cg (n:=2*I h+2*((ax.idxOf v+I ax-1)%I ax)) J;cases u
   case' true=>have Q:v=(d/2+1)%I h:=Q
   case' false=>have Q:v=d/2:=Q
   all_goals
    cases iE:dn h v;all_goals
     rw[iE]at j;subst Q;simp only[go_sem,OX,D,M,E,B,A,Qs,O,U.ps,jq,N,tf,n_,kE,Ua,GS,ie F,cS j,n1,y,n3,n4,n5,n6,n7,n8,ZC]
 have z:(if(d%2==0)=true then(d/2+1)%I h else d/2)<I h:=by
  split
  .exact X
  omega
 have:=body _ z (d%2==0) rfl rfl (by cases hq:(d%2==0)<;>simp at hq |- <;>omega);exact this
abbrev dx(o:dK):dy:=o.map λb:Bool=>[PV.bool b]
def rB{o:dK}{k:Nat}{b:Bool}(h:o[k]?=some b):(dx o)[k]?=some [.bool b]:=by simp[h]
def LS(o:dK)(k:Nat)(b:Bool):(dx o).set k [.bool b]=dx (o.set k b):=by simp[vt]
def hU(next:Nat->Nat):Nat->Nat->dK->aD×dK
 |0,_,seen=>([],seen)
 |k+1,x,seen=>if seen.getD x true then([],seen)else(x::(hU next k (next x) (seen.set x true)).1,(hU next k (next x) (seen.set x true)).2)
def BX(s:dK):Nat:=s.countP (λb=> !b)
theorem Sm{s:dK}(h:s[x]?=some false):BX (s.set x true)+1=BX s:=by grind [BX]
theorem ava(next:Nat->Nat):∀(k x:Nat) (s:dK),(hU next k x s).2.length=I s:=by
 intro k
 induction k with
 |zero=>intro x s;rfl
 |succ k f=>grind [hU]
def wQ(next:Nat->Nat)(st:List aD×dK)(d:Nat):List aD×dK:=if st.2.getD d true then st else(st.1++[(hU next (I st.2+1) d st.2).1],(hU next (I st.2+1) d st.2).2)
def fJ(next:Nat->Nat)(N k:Nat):List aD×dK:=(List.range k).foldl (wQ next) ([],List.replicate N false)
def eX(next:Nat->Nat)(N:Nat):List aD:=(fJ next N N).1
theorem Bn(next:Nat->Nat)(N k:Nat):fJ next N (k+1)=wQ next (fJ next N k) k:=by unfold fJ;rw[mJ,Bq];rfl
theorem JU(next:Nat->Nat)(N:Nat):∀k,(fJ next N k).2.length=N:=by
 intro k
 induction k with
 |zero=>simp[fJ]
 |succ k f=>grind [Bn,wQ,ava]
def awt(next:Nat->Nat)(N k:Nat)(h:1<=k)(j:1<=N):(fJ next N k).1≠[]:=by
 induction k with
 |zero=>omega
 |succ k f=>
  rw[Bn];by_cases H:k=0
  .grind [fJ,wQ]
  have:=f J;unfold wQ;split
  .exact this
  simp
def NC(next:Nat->Nat)(N:Nat):∀k,(fJ next N k).1.length<=k:=by
 intro k
 induction k with
 |zero=>simp[fJ]
 |succ k f=>grind [Bn,wQ]
theorem Mx(s:dK):BX s<=I s:=OH
def aBU{h:ae}{ax:aD}(hl:I h<=1000000)(jD:I ax<=1000000)(kG:∀x∈ax,x<I h)(hp:∀v l,h[v]?=some l->(l.kind==2)=false->v∈ax):
  ∀(F x:Nat) (dO:dK) (w:aD) (m:bP) (blk:aH),m 1=.one (.aW 2560000000 1 0)->blk 2560000000=(1,some (.var (pF f h)))->
   m 4=.one (.hsl 2560128064 1 1 0 (I ax))->blk 2560128064=(1,some (.arr 3 1 (aY ax)))->m 5=.one (.hsl 2560192512 1 1 0 (I dO))->blk 2560192512=(1,some (.arr 4 1 (dx dO)))->
   IQ 2560832192 w (m 7) blk->m 8=ai x->x<I dO->I dO=2*I h+2*I ax->BX dO<F->I w+BX dO<=5000000->
   (∀A j,A 1=m 1->A 3=m 3->A 4=m 4->A 5=m 5->A 6=m 6->j 2560000000=blk 2560000000->j 2560128064=blk 2560128064->j 2560896192=blk 2560896192->j 2560896128=blk 2560896128->
    j 2560192512=(1,some (.arr 4 1 (dx (hU (jd h ax) F x dO).2)))->IQ 2560832192 (w++(hU (jd h ax) F x dO).1) (A 7) j->Q .normal A j)->
   W S .all (.loop PT) (oh 2 Q) m blk:=by
 intro F
 induction F with
 |zero=>intro x dO w m blk _ _ _ _ _ _ _ _ _ _ ab;omega
 |succ F ih=>
  intro x dO w m blk z L y B u E ho h8 D hsl hu hw H;obtain⟨b,R⟩:=aP D;have mD:=rB R;have Dq:dO.getD x true=b:=by rw[dM,R];rfl
  unfold hU at H;rw[Dq]at H;refine oG ?_;cases b with
  |true=>
   simp only[go_sem,PT,u,E,h8,D,mD];refine H _ _ ?_ ?_ ?_ ?_ ?_ rfl rfl rfl rfl E ?_;all_goals simp only[go_sem]
   exact ho
  |false=>
   have KA:=Sm R;have pt:=aFb f h ax x hl jD kG hp J;have mU:=Wd (d:=x) kG hp J;have iZ:=LS dO x true;have nU:∀n:Nat,n<=5000001->n*8<=140737488355328:=λn hn=>J;have Kx:List.take (I ax) (aY ax)=aY ax:=eT aG;rcases ho with⟨rfl,Z⟩|⟨UO,g,Z,hC⟩
   .simp only[go_sem,PT,z,L,y,B,u,E,Z,h8,D,mD,iZ,Kx,aql,ie pt,jl,gk];refine ih (jd h ax x) (dO.set x true) [x] _ _ ?_ ?_ ?_ ?_ ?_ ?_ ?_ ?_ (by simpa [hsl]using mU) (by simpa using hsl) J fd ?_
    .simp only[go_sem,z]
    .simp only[go_sem,L]
    .simp only[go_sem,y]
    .simp only[go_sem,B]
    .simp only[go_sem,u,oF]
    .simp only[go_sem]
    .simp only[go_sem];exact .inr ⟨aG,_,rfl,rfl⟩
    .simp only[go_sem]
    intro A j Y q3 q4 q5 X M b2 T b4 N O;refine H A j ?_ ?_ ?_ ?_ ?_ ?_ ?_ ?_ ?_ N ?_
    .rw[Y];simp only[go_sem]
    .rw[q3];simp only[go_sem]
    .rw[q4];simp only[go_sem]
    .rw[q5];simp only[go_sem]
    .rw[X];simp only[go_sem]
    .rw[M];simp only[go_sem]
    .rw[b2];simp only[go_sem]
    .rw[T];simp only[go_sem]
    .rw[b4];simp only[go_sem]
    simpa using O
   have xA:List.take (I w) (aY w)=aY w:=eT aG;have lO:=nU (I w+1) J;simp only[go_sem,PT,z,L,y,B,u,E,Z,h8,D,mD,iZ,Kx,aql,ie pt,hC,xA,lO,jl,gk];refine ih (jd h ax x) (dO.set x true) (w++[x]) _ _ ?_ ?_ ?_ ?_ ?_ ?_ ?_ ?_ (by simpa [hsl]using mU) (by simpa using hsl) J fd ?_
   .simp only[go_sem,z]
   .simp only[go_sem,L]
   .simp only[go_sem,y]
   .simp only[go_sem,B]
   .simp only[go_sem,u,oF]
   .simp only[go_sem]
   .simp only[go_sem];exact .inr ⟨aG,g+1,aG,by simp[bG]⟩
   .simp only[go_sem]
   intro A j Y q3 q4 q5 X M b2 T b4 N O;refine H A j ?_ ?_ ?_ ?_ ?_ ?_ ?_ ?_ ?_ N ?_
   .rw[Y];simp only[go_sem]
   .rw[q3];simp only[go_sem]
   .rw[q4];simp only[go_sem]
   .rw[q5];simp only[go_sem]
   .rw[X];simp only[go_sem]
   .rw[M];simp only[go_sem]
   .rw[b2];simp only[go_sem]
   .rw[T];simp only[go_sem]
   .rw[b4];simp only[go_sem]
   simpa using O
def aGP(f:Nat)(o:List aD)(v:V)(blk:aH):Prop:=(o=[]/\v=.one (.p .nils))\/(o≠[]/\ ∃g,v=.one (.hsl f g 1 0 (I o))/\blk f=(g,some (.arr 68 1 (o.map λw=>[uX w]))))
def am6(f:Int)(h:ae)(hl:I h<=1000000)(D:aA h≠[])(hp:∀v l,h[v]?=some l->(l.kind==2)=false->v∈aA h):
  aC S 40 [c7 f h] (.one (.own 68 1 ((eX (jd h (aA h)) (2*I h+2*I (aA h))).map λw=>[uX w]))):=by
 have B:=ahm f h hl;have kG:∀x∈aA h,x<I h:=λx ab=>Xk ab;have jD:I (aA h)<=I h:=qp h (I h);unfold RH at B;rw[aE D]at B;generalize aA h=ax at D hp B kG jD;have m1:=qj (a:=I h) J;have m2:=qj (a:=I ax) J;have m3:=uh (a:=2*I h) (b:=2*I ax) J;have kK:I (aY ax)=I ax:=aG;have nU:2*I h+2*I ax<=140737488355328:=J;have Kw:List.replicate (2*I h+2*I ax) [PV.bool false]=dx (List.replicate (2*I h+2*I ax) false):=aG
 refine ba aqW ?_;have T:∀(blk:aH),fQ blk [] 2560128064 ((RV.one (.own 3 1 (aY ax))).gV (S.lone 2560128064))=some (.one (.hsl 2560128064 ((blk 2560128064).1+1) 1 0 (I ax)),[(2560128064,((blk 2560128064).1+1,some (.arr 3 1 (aY ax))))]):=by intro blk;have jo:S.lone 2560128064=false:=ah;rw[jo];simp only[RV.gV,fQ,true_or,if_true,jH,mX,og,ns,jy,zC,uH,ct,j_]
 simp only[go_sem,an5,amM,dt B (T _),m1,m2,m3,nU,Kw];generalize hN:2*I h+2*I ax=N at nU;refine cZ (λk m blk=>m 1=.one (.aW 2560000000 1 0)/\blk 2560000000=(1,some (.var (pF f h)))/\m 4=.one (.hsl 2560128064 1 1 0 (I ax))/\blk 2560128064=(1,some (.arr 3 1 (aY ax)))/\
   m 5=.one (.hsl 2560192512 1 1 0 N)/\blk 2560192512=(1,some (.arr 4 1 (dx (fJ (jd h ax) N k).2)))/\m 6=ai k/\aGP 2560896192 (fJ (jd h ax) N k).1 (m 3) blk) 0 N (bj _) ?_ ?_
 .simp only[go_sem];exact⟨rfl,rfl,.inl ⟨rfl,rfl⟩⟩
 rintro k m blk hk ⟨h1,hB,O,hA,z,A,M,j⟩
 have H:=JU (jd h ax) N k;have Iw:=NC (jd h ax) N k;by_cases F:k<N
 .have aL:((k:Int)<(N:Int)):=J;have X:=cg (n:=k) J;have af:=Bn (jd h ax) N k;generalize cN:fJ (jd h ax) N k=st at H af j A Iw;obtain⟨out,dO⟩:=st;simp only at H j A Iw;obtain⟨b,hb⟩:=aP (h:=dO) (k:=k) J;have mD:=rB hb;unfold wQ at af;have Dq:dO.getD k true=b:=by rw[dM,hb];rfl
  simp only[Dq]at af;cases b with
  |true=>simp only[go_sem,VU,VR,h1,hB,O,hA,z,A,M,F,aL,mD,X,af];exact j
  |false=>
   have af:fJ (jd h ax) N (k+1)=(out++[(hU (jd h ax) (N+1) k dO).1],(hU (jd h ax) (N+1) k dO).2):=by rw[af,H];rfl
   have QS:=Mx dO;simp only[go_sem,VU,z,A,M,F,aL,mD];refine aBU (f:=f) hl J kG hp (N+1) k dO [] _ _ ?_ ?_ ?_ ?_ ?_ ?_ ?_ ?_ J J J fd ?_
   .simp only[go_sem,h1]
   .simp only[go_sem,hB]
   .simp only[go_sem,O]
   .simp only[go_sem,hA]
   .simp only[go_sem,z,H]
   .simp only[go_sem,A]
   .exact .inl ⟨rfl,by simp only[go_sem]⟩
   .simp only[go_sem]
   intro aF ak q1 Q q4 R Z Y b2 b3 b4 E b6;simp only[go_sem,h1,O,z,M]at q1 Q q4 R Z;simp only[go_sem,hB,hA]at Y b2 b3 b4;have UO:(hU (jd h ax) (N+1) k dO).1≠[]:=by unfold hU;rw[Dq];simp
   rw[gM]at b6;rcases b6 with⟨e,_⟩|⟨_,g,L,y⟩
   .exact(UO e).elim
   generalize hU (jd h ax) (N+1) k dO=wf at af UO E L y;obtain⟨w,jS⟩:=wf;simp only at af UO E L y;have xA:List.take (I w) (aY w)=aY w:=eT aG;rcases j with⟨rfl,u⟩|⟨j,go,u,hO⟩
   .rw[u]at Q;simp only[go_sem,ac1,VR,q1,Q,q4,R,Z,Y,b2,E,L,y,xA,X,af,F,zV,jl,gk];exact .inr ⟨aG,_,rfl,by simp[bG]⟩
   rw[u]at Q;have ID:List.take (I out) (out.map λw=>[uX w])=out.map λw=>[uX w]:=eT aG;have lO:(I out+1)*24<=140737488355328:=J;simp only[go_sem,ac1,VR,q1,Q,q4,R,Z,Y,b2,b3,E,L,y,hO,xA,ID,lO,X,af,F,zV,dh,jl,gk];exact .inr ⟨aG,go+1,aG,by simp[bG]⟩
 have:k=N:=J;subst this;have he:eX (jd h ax) k=(fJ (jd h ax) k k).1:=rfl;rw[<-he]at j;rcases j with⟨e,u⟩|⟨j,g,u,y⟩
 .exact(awt (jd h ax) k k (by have:=iW.2 D;omega) (by have:=iW.2 D;omega) e).elim
 simp only[go_sem,VU,afM,u,z,M,ek];exact Ig y aG
abbrev RD(l:U):eC:=[.p (.int .i64 l.kind),.p (.int .i64 l.gate),.p (.int .i64 l.ao),.p (.int .i64 l.id),.p (.int .i64 l.sign),.p (.bool l.over)]
def ld(l o:U):Bool:=(o.kind==l.kind&&o.gate==l.gate)&&o.ao==l.ao
def k_(l o:U):Bool:=((o.kind==l.kind&&o.id==l.id)&&o.sign==l.sign)&& !(o.over==l.over)
def K5(f:Int)(h:ae)(l:U):Bool:= !(((((((l.id !=0||l.sign !=0)||l.over)||decide (l.gate<0))||decide (f<l.gate))||decide (l.ao<1))||decide ((aq (m_ l.gate) h:Int)<l.ao))||(((aq (ld l) h:Nat):Int)!=1))
def yP(h:ae)(l:U):Bool:= !((((((l.gate !=0||l.ao !=0)||(l.sign !=1&&l.sign != -1))||decide (l.id<1))||decide (((aq U.au h/2:Nat):Int)<l.id))||(((aq (k_ l) h:Nat):Int)!=1))||(((aq (qm l.id) h:Nat):Int)!=2))
def DG(f:Int)(h:ae)(l:U):Bool:=if l.kind==1 then K5 f h l else if l.kind==2 then yP h l else false
def aFK{f:Int}{h:ae}{l:U}{g i:Nat}{blk:aH}(hl:I h<=1000000)(h1:m 1=.one (.aW 2496000000 1 0))(hB:blk 2496000000=(1,some (.var (pF f h))))(h3:m 3=ai i)(h4:m 4=.one (.aW 2496256320 g 0))(hL:blk 2496256320=(g,some (.var (RD l))))
  (h5:m 5=ai 0) (h6:m 6=ai 0) (h7:m 7=ai 0)
  (hq:∀z Y,z 1=m 1->z 3=m 3->z 4=m 4->Y 2496000000=blk 2496000000->Y 2496256320=blk 2496256320->z 5=ai (aq (ld l) h)->z 6=ai (aq (k_ l) h)->Q .normal z Y):
  W S .all (.loop Al) (oh 2 Q) m blk:=by
 refine cZ (λk z Y=>z 1=.one (.aW 2496000000 1 0)/\Y 2496000000=(1,some (.var (pF f h)))/\z 3=ai i/\z 4=.one (.aW 2496256320 g 0)/\Y 2496256320=(g,some (.var (RD l)))/\
   z 5=ai (aq (ld l) (h.take k))/\z 6=ai (aq (k_ l) (h.take k))/\z 7=ai k) 0 (I h) (bj _) ?_ ?_
 .exact⟨h1,hB,h3,h4,hL,h5,h6,h7⟩
 rintro k z Y hk ⟨g1,F,B,O,ez,L,D,N⟩
 by_cases j:k<I h
 .obtain⟨o,H⟩:=aP j;have X:=fW H;have T:((k:Int)<(I h:Int)):=J;have b5:=B8 (ld l) h k;have b6:=B8 (k_ l) h k;have R:=cg (n:=k) J;have w5:=cg (n:=aq (ld l) (h.take k)) J;have Z:=cg (n:=aq (k_ l) (h.take k)) J;cases E:(o.kind==l.kind)with
  |true=>
   cases v:(o.gate==l.gate)with
   |true=>
    cases y:(o.ao==l.ao)with
    |true=>
     cases u:(o.id==l.id)with
     |true=>
      cases x:(o.sign==l.sign)with
      |true=>
       cases M:(o.over==l.over)
       case' true=>have A:=uY (p:=ld l) H lm;have fZ:=lZ (p:=k_ l) H sm
       case' false=>have A:=uY (p:=ld l) H lm;have fZ:=uY (p:=k_ l) H sm
       all_goals
        simp only[go_sem,Al,g1,F,B,O,ez,L,D,N,X,U.ps,T,R,w5,Z,E,v,y,u,x,M,A,fZ];first|exact j|exact⟨j,rfl⟩|exact⟨j,rfl,rfl⟩
      |false=>have A:=uY (p:=ld l) H lm;have fZ:=lZ (p:=k_ l) H aHP;simp only[go_sem,Al,g1,F,B,O,ez,L,D,N,X,U.ps,T,R,w5,E,v,y,u,x,A,fZ];first|exact j|exact⟨j,rfl⟩|exact⟨j,rfl,rfl⟩
     |false=>have A:=uY (p:=ld l) H lm;have fZ:=lZ (p:=k_ l) H aH3;simp only[go_sem,Al,g1,F,B,O,ez,L,D,N,X,U.ps,T,R,w5,E,v,y,u,A,fZ];first|exact j|exact⟨j,rfl⟩|exact⟨j,rfl,rfl⟩
    |false=>
     cases u:(o.id==l.id)with
     |true=>
      cases x:(o.sign==l.sign)with
      |true=>
       cases M:(o.over==l.over)
       case' true=>have A:=lZ (p:=ld l) H lm;have fZ:=lZ (p:=k_ l) H sm
       case' false=>have A:=lZ (p:=ld l) H lm;have fZ:=uY (p:=k_ l) H sm
       all_goals
        simp only[go_sem,Al,g1,F,B,O,ez,L,D,N,X,U.ps,T,R,Z,E,v,y,u,x,M,A,fZ];first|exact j|exact⟨j,rfl⟩|exact⟨j,rfl,rfl⟩
      |false=>have A:=lZ (p:=ld l) H lm;have fZ:=lZ (p:=k_ l) H aHP;simp only[go_sem,Al,g1,F,B,O,ez,L,D,N,X,U.ps,T,R,E,v,y,u,x,A,fZ];first|exact j|exact⟨j,rfl⟩|exact⟨j,rfl,rfl⟩
     |false=>have A:=lZ (p:=ld l) H lm;have fZ:=lZ (p:=k_ l) H aH3;simp only[go_sem,Al,g1,F,B,O,ez,L,D,N,X,U.ps,T,R,E,v,y,u,A,fZ];first|exact j|exact⟨j,rfl⟩|exact⟨j,rfl,rfl⟩
   |false=>
    cases u:(o.id==l.id)with
    |true=>
     cases x:(o.sign==l.sign)with
     |true=>
      cases M:(o.over==l.over)
      case' true=>have A:=lZ (p:=ld l) H arg;have fZ:=lZ (p:=k_ l) H sm
      case' false=>have A:=lZ (p:=ld l) H arg;have fZ:=uY (p:=k_ l) H sm
      all_goals
       simp only[go_sem,Al,g1,F,B,O,ez,L,D,N,X,U.ps,T,R,Z,E,v,u,x,M,A,fZ];first|exact j|exact⟨j,rfl⟩|exact⟨j,rfl,rfl⟩
     |false=>have A:=lZ (p:=ld l) H arg;have fZ:=lZ (p:=k_ l) H aHP;simp only[go_sem,Al,g1,F,B,O,ez,L,D,N,X,U.ps,T,R,E,v,u,x,A,fZ];first|exact j|exact⟨j,rfl⟩|exact⟨j,rfl,rfl⟩
    |false=>have A:=lZ (p:=ld l) H arg;have fZ:=lZ (p:=k_ l) H aH3;simp only[go_sem,Al,g1,F,B,O,ez,L,D,N,X,U.ps,T,R,E,v,u,A,fZ];first|exact j|exact⟨j,rfl⟩|exact⟨j,rfl,rfl⟩
  |false=>have A:=lZ (p:=ld l) H (by simp only[ld,E];rfl);have fZ:=lZ (p:=k_ l) H (by simp only[k_,E];rfl);simp only[go_sem,Al,g1,F,B,O,ez,L,D,N,X,U.ps,T,R,E,A,fZ];first|exact j|exact⟨j,rfl⟩|exact⟨j,rfl,rfl⟩
 have:k=I h:=J;subst this;rw[lN]at L D;simp only[go_sem,Al,g1,F,N,ek];refine hq _ _ ?_ ?_ ?_ ?_ ?_ ?_ ?_;all_goals simp only[go_sem,g1,F,B,O,ez,L,D,h1,hB,h3,h4,hL]
def avM{f:Int}{h:ae}{l:U}{g i:Nat}{blk:aH}(hl:I h<=1000000)(D:m 1=.one (.aW 2496000000 1 0))(N:blk 2496000000=(1,some (.var (pF f h))))(z:m 3=ai i)(B:m 4=.one (.aW 2496256320 g 0))(E:blk 2496256320=(g,some (.var (RD l))))
  (O:m 5=ai (aq (ld l) h)) (L:m 6=ai (aq (k_ l) h))
  (u:DG f h l->∀A,A 1=m 1->A 3=m 3->Q .normal A blk) (H:DG f h l=false->∀A,A 2=.one (.p (.bool false))->Q .ret A blk):
  W S .all aah Q m blk:=by
 have j:=V7 f h hl l.gate;have v:=X3 f h hl;have x:=aDz f h hl l.id;have M:=ny U.au h;have F:=wrap_small (n:=aq U.au h/2) J;simp only[go_sem,aah,B,E];repeat' ((first|apply qh|apply ql|apply qg|apply qq|apply pL|apply qf)<;>intro y<;>simp only[go_sem, *,WL,CB,aC8,jZ j,jZ v,jZ x,n_,kE,bne])
 all_goals try refine⟨ah,?_⟩
 all_goals try(refine pL (λy=>?_) (λy=>?_)<;>simp only[go_sem, *,-u,-H])
 all_goals
  simp only[DG,K5,yP, *,bne,Bool.or_true,Rt,Bool.true_or,if_true,if_false,AL,Hl,Fg,VQ,JQ,iJ,Bool.true_eq_false,false_implies,forall_const]at u H;first|refine H _ ?_ |refine u _ ?_ ?_
  all_goals simp only[go_sem,D,z]
def zU(f:Int)(h:ae):Bool:=h.all (DG f h)
def aGi(f:Int)(h:ae)(hl:I h<=1000000):aC S 39 [c7 f h] (cK (zU f h)):=by
 refine ba asb ?_;simp only[go_sem,aqc];refine cZ (λk m blk=>m 1=.one (.aW 2496000000 1 0)/\blk 2496000000=(1,some (.var (pF f h)))/\m 3=ai k/\ ∀j l,j<k->h[j]?=some l->DG f h l) 0 (I h) (bj _) ?_ ?_
 .simp only[go_sem];exact⟨rfl,λj l ab=>absurd ab (oJ j)⟩
 rintro k m blk hk ⟨u,y,v,F⟩
 by_cases E:k<I h
 .obtain⟨l,D⟩:=aP E;have hi:=fW D;have T:((k:Int)<(I h:Int)):=J;have R:=cg (n:=k) J;simp only[go_sem,abZ,u,y,v,hi,U.ps,T];refine aFK (f:=f) (l:=l) (g:=(blk 2496256320).1+1) (i:=k) hl ?_ ?_ ?_ ?_ ?_ ?_ ?_ ?_ ?_
  .simp only[go_sem,u]
  .simp only[go_sem,y]
  .simp only[go_sem,v]
  .simp only[go_sem]
  .simp only[go_sem]
  .simp only[go_sem]
  .simp only[go_sem]
  .simp only[go_sem]
  intro aF ak Q A L B M Z X;simp only[go_sem,u,v]at Q A L;simp only[go_sem,y]at B M;simp only[go_sem];refine avM (f:=f) (l:=l) (i:=k) hl Q B A L M Z X ?_ ?_
  .intro Qt dq N O;rw[Q]at N;rw[A]at O;simp only[go_sem,agP,N,B,O,R];refine⟨E,λj l' H z=>?_⟩;rcases vq.1 H with H|rfl
   .exact F j l' H z
   rw[D]at z;cases z;exact Qt
  intro yu dq Y;have hf:zU f h=false:=by unfold zU;rw[XV];exact⟨l,a8 D,by simp[yu]⟩
  simp only[go_sem,Y,hf]
 have:k=I h:=J;subst this;have hf:zU f h:=by unfold zU;rw[mz];intro x hx;obtain⟨j,H,rfl⟩:=List.getElem_of_mem hx;exact F j _ H aG
 simp only[go_sem,abZ,anh,u,y,v,ek,hf]
theorem aCo{h:ae}{o:aD}{i:Nat}:x∈EE h o i↔x∈o\/x=i:=by
 unfold EE;generalize(o.takeWhile _).length=bJ;constructor
 .grind
 rintro(H|rfl)
 .rw[<-mW bJ o]at H
  grind
 simp
def aj7{h:ae}:∀ {k x:Nat},k<=I h->(x∈uc h k↔x<k/\ ∃l,h[x]?=some l/\l.ay):=by
 intro k
 induction k with
 |zero=>intro x _;simp[uc]
 |succ k f=>grind [Mu,DA,aCo]
def sX{h:ae}:x∈aA h↔ ∃l,h[x]?=some l/\l.ay:=by
 have:=aj7 (k:=I h) (x:=x) (cP _);have e:aA h=uc h (I h):=rfl
 grind
def ajS{h:ae}(j:zU f h){l:U}(H:h[v]?=some l):l.ay\/l.au:=by
 have:=(mz.1 j) l (a8 H)
 grind [DG,U.ay,U.au]
def fV(h:ae):Nat:=I (eX (jd h (aA h)) (2*I h+2*I (aA h)))
def oI(f:Int)(h:ae):Bool:=(match h[0]? with|some l=>l.kind==1|none=>true)&&(aq U.ay h%2==0)&&zU f h&&(fV h==aq U.ay h+aq U.au h/2+2)
def fP(f:Int)(h:ae):Int:=if 400<I h\/200<aq U.au h then 7 else if f<0\/40<f then 2 else if h=[]then 0 else if oI f h then 0 else 3
def axo(f:Int)(h:ae)(hl:I h<=1000000):aC S 11 [c7 f h] (fH (fP f h)):=by
 have j:=X3 f h hl;have x:=ai3 f h hl;have u:=aGi f h hl;have ad:=Oy f h hl;have an:=ny U.au h;have iY:=ny U.ay h;refine ba ME ?_;unfold fP;by_cases T:400<I h
 .have M:(400:Int)<(I h:Int):=J;simp only[go_sem,DE,T,M]
 have M:¬(400:Int)<(I h:Int):=J;by_cases N:200<aq U.au h
 .have z:(200:Int)<(aq U.au h:Int):=J;simp only[go_sem,DE,T,M,N,z,CB,ie j]
 have z:¬(200:Int)<(aq U.au h:Int):=J;by_cases D:f<0
 .simp only[go_sem,DE,T,M,N,z,D,CB,ie j]
 by_cases F:40<f
 .simp only[go_sem,DE,T,M,N,z,D,F,CB,ie j]
 have Z:¬(400<I h\/200<aq U.au h):=J;have ag:¬(f<0\/40<f):=J;rw[aE Z,aE ag];by_cases he:h=[]
 .subst he;have hz:(((0:Nat):Int)==0):=aa;have ak:¬((400:Int)<((0:Nat):Int)):=aa;have ab:aC S 37 [.agg [.p (.int .i64 f),.p (.sl [])]] (fH (aq U.au [])):=j;simp only[go_sem,DE,ak,z,D,F,CB,ie ab,hz]
 have Q:0<I h:=iW.2 he;obtain⟨X,B⟩:=aP Q;have Y:=fW B;have R:(((I h:Nat):Int)==0)=false:=fd
 rw[aE he];generalize H:(if oI f h=true then(0:Int)else 3)=r;cases A:(X.kind==1)with
 |false=>
  have n:(X.kind !=1):=by simp[bne,A]
  have m:oI f h=false:=by simp only[oI,B,A];rfl
  rw[m]at H;have H:(3:Int)=r:=H;subst H;simp only[go_sem,DE,M,z,D,F,CB,ie j,R,Og,ie x,Y,U.ps,n];exact aK
 |true=>
  have n:(X.kind !=1)=false:=by simp[bne,A]
  cases E:(aq U.ay h%2==0)with
  |false=>
   have y:(((aq U.ay h%2:Nat):Int)!=0):=by simp at E |-;omega
   have m:oI f h=false:=by simp only[oI,B,A,E];rfl
   rw[m]at H;have H:(3:Int)=r:=H;subst H;simp only[go_sem,DE,M,z,D,F,CB,ie j,R,Og,ie x,Y,U.ps,n,tf,kE,y];exact aK
  |true=>
   have y:(((aq U.ay h%2:Nat):Int)!=0)=false:=by simp at E |-;omega
   cases c4:zU f h with
   |false=>
    rw[c4]at u;have m:oI f h=false:=by simp only[oI,B,A,E,c4];rfl
    rw[m]at H;have H:(3:Int)=r:=H;subst H;simp only[go_sem,DE,M,z,D,F,CB,ie j,R,Og,ie x,Y,U.ps,n,tf,kE,y,ako,mA u];exact aK
   |true=>
    rw[c4]at u;have aN:aA h≠[]:=λe=>by have:(0:Nat)∈aA h:=sX.2 ⟨X,B,A⟩;rw[e]at this;cases this
    have hp:∀v l,h[v]?=some l->(l.kind==2)=false->v∈aA h:=λv l m N=>by
     rcases ajS c4 m with am|am
     .exact sX.2 ⟨l,m,am⟩
     unfold U.au at am;rw[N]at am;cases am
    have pw:=am6 f h hl aN hp;have Nd:fV h=I (eX (jd h (aA h)) (2*I h+2*I (aA h))):=rfl;have wB:=NC (jd h (aA h)) (2*I h+2*I (aA h)) (2*I h+2*I (aA h));generalize hW:eX (jd h (aA h)) (2*I h+2*I (aA h))=L at pw wB Nd;have a1:=uh (a:=aq U.ay h) (b:=aq U.au h/2) J;have a2:IntKind.i64.wrap (((aq U.ay h+aq U.au h/2:Nat):Int)+2)=((aq U.ay h+aq U.au h/2+2:Nat):Int):=uh (b:=2) J;have jo:S.lone 704513152=false:=ah
    have nO:∀(blk:aH),fQ blk [] 704513152 ((RV.one (.own 68 1 (L.map λw=>[uX w]))).gV (S.lone 704513152))=some (.one (.hsl 704513152 ((blk 704513152).1+1) 1 0 (I L)),[(704513152,((blk 704513152).1+1,some (.arr 68 1 (L.map λw=>[uX w]))))]):=by intro blk;rw[jo];simp only[RV.gV,fQ,true_or,if_true,jH,mX,og,ns,jy,zC,uH,ct,j_]
    cases fv:(I L==aq U.ay h+aq U.au h/2+2)
    case' false=>
     have O:(((I L:Nat):Int)!=((aq U.ay h+aq U.au h/2+2:Nat):Int)):=by simp at fv |-;omega
     have m:oI f h=false:=by simp only[oI,B,A,E,c4,Nd,fv];rfl
     rw[m]at H;have H:(3:Int)=r:=H
    case' true=>
     have O:(((I L:Nat):Int)!=((aq U.ay h+aq U.au h/2+2:Nat):Int))=false:=by simp at fv |-;omega
     have m:oI f h:=by simp only[oI,B,A,E,c4,Nd,fv];rfl
     rw[m]at H;have H:(0:Int)=r:=H
    all_goals
     subst H;simp only[go_sem,DE,M,z,D,F,CB,ie j,R,Og,ie x,Y,U.ps,n,tf,kE,y,ako,mA u,ajZ,od pw (nO _),Sa,jZ ad,a1,a2,O];exact aK
def eK(f:Int)(l:U):Bool:=if l.kind==1 then(((decide (l.gate<0)||decide (f<l.gate))||l.id !=0)||l.sign !=0)||l.over else if l.kind==2 then(l.gate !=0||l.ao !=0)||(l.sign !=1&&l.sign != -1)else true
def ate(f:Int)(l:U)(D y X x4 z B:PV):aC S 198 [yk l,.one (.p (.box [.box [.int .i64 f,D,y,X,x4,z,B]]))] (cK (eK f l)):=by
 refine ba aDr ?_;cases h:(l.kind==1)with
 |true=>
  cases A:(decide (l.gate<0))with
  |true=>
   have E:=xT A;have H:eK f l:=by simp only[eK,h,A];rfl
   simp only[go_sem,Cp,h,E,H];exact aK
  |false=>
   cases j:(decide (f<l.gate))with
   |true=>
    have E:=tq A;have v:=xT j;have H:eK f l:=by simp only[eK,h,A,j];rfl
    simp only[go_sem,Cp,h,E,v,H];exact aK
   |false=>
    cases m:(l.id !=0)with
    |true=>
     have E:=tq A;have v:=tq j;have H:eK f l:=by simp only[eK,h,A,j,m];rfl
     simp only[go_sem,Cp,h,E,v,m,H];exact aK
    |false=>
     cases u:(l.sign !=0)with
     |true=>
      have E:=tq A;have v:=tq j;have H:eK f l:=by simp only[eK,h,A,j,m,u];rfl
      simp only[go_sem,Cp,h,E,v,m,u,H];exact aK
     |false=>
      cases x:(l.over)
      case' true=>have E:=tq A;have v:=tq j;have H:eK f l:=by simp only[eK,h,A,j,m,u,x];rfl
      case' false=>have E:=tq A;have v:=tq j;have H:eK f l=false:=by simp only[eK,h,A,j,m,u,x];rfl
      all_goals
       simp only[go_sem,Cp,h,E,v,m,u,x,H];exact aK
 |false=>
  cases n:(l.kind==2)with
  |true=>
   cases A:(l.gate !=0)with
   |true=>
    have H:eK f l:=by simp only[eK,h,n,A];rfl
    simp only[go_sem,Cp,h,n,A,H]
   |false=>
    cases j:(l.ao !=0)with
    |true=>
     have H:eK f l:=by simp only[eK,h,n,A,j];rfl
     simp only[go_sem,Cp,h,n,A,j,H]
    |false=>
     cases m:(l.sign !=1)with
     |true=>
      cases u:(l.sign != -1)
      case' true=>have H:eK f l:=by simp only[eK,h,n,A,j,m,u];rfl
      case' false=>have H:eK f l=false:=by simp only[eK,h,n,A,j,m,u];rfl
      all_goals
       simp only[go_sem,Cp,h,n,A,j,m,u,H]
     |false=>
      have H:eK f l=false:=by simp only[eK,h,n,A,j,m];rfl
      simp only[go_sem,Cp,h,n,A,j,m,H]
  |false=>
   have H:eK f l:=by simp only[eK,h,n];rfl
   simp only[go_sem,Cp,h,n,H]
abbrev Vj(f:Int)(x1 x2 x3 x4 x5 x6:PV):PV:=.fn 198 [] [.box [.box [.int .i64 f,x1,x2,x3,x4,x5,x6]]]
def av2(f:Int)(h:ae)(D X x x4 z B:PV)(hl:I h<=1000000)(u:D.norm=D/\X.norm=X/\x.norm=x/\x4.norm=x4/\z.norm=z/\B.norm=B):
  ∃k:Int,(0<=k↔h.any (eK f)=true)/\aC S 227 [.one (.p (fz h)),.one (.p (Vj f D X x x4 z B))] (fH k):=by
 have M:∀r:Int,(∀(k:Nat) l,h[k]?=some l->eK f l->(∀(j:Nat) y,j<k->h[j]?=some y->eK f y=false)->r=k)->((∀(j:Nat) y,h[j]?=some y->eK f y=false)->r= -1)->
   aC S 227 [.one (.p (fz h)),.one (.p (Vj f D X x x4 z B))] (fH r):=by
  intro r lO Bb;refine ba asy ?_;simp only[go_sem,amx];refine cZ (λk m blk=>m 0=.one (.p (fz h))/\m 1=.one (.p (Vj f D X x x4 z B))/\m 7=ai (I h)/\m 8=ai k/\ ∀j y,j<k->h[j]?=some y->eK f y=false) 0 (I h) (bj _) ?_ ?_
  .simp only[go_sem];exact⟨rfl,λj y E=>absurd E (oJ j)⟩
  rintro k m blk hk ⟨R,v,L,N,u⟩
  by_cases T:k<I h
  .obtain⟨l,F⟩:=aP T;have Z:=fW F;have Y:((k:Int)<(I h:Int)):=J;have pb:=ate f l D X x x4 z B;cases H:eK f l with
   |true=>rw[H]at pb;have O:=lO k l F H u;subst O;simp only[go_sem,Tu,R,v,L,N,Z,U.ps,Y,aiO,cS pb]
   |false=>
    rw[H]at pb;simp only[go_sem,Tu,R,v,L,N,Z,U.ps,Y,cg (n:=k) J,aiO,cS pb];refine⟨T,λj y Q A=>?_⟩;rcases vq.1 Q with Q|rfl
    .exact u j y Q A
    rw[F]at A;cases A;exact H
  have:k=I h:=J;subst this;have O:=Bb λj y A=>u j y (bN.1 A).1 A;subst O;simp only[go_sem,Tu,ah0,L,N,ek]
 cases ha:h.any (eK f)with
 |true=>
  have hx:=aog (by simpa using ha);refine⟨(h.findIdx (eK f):Nat),⟨λ_=>rfl,λ_=>J⟩,M _ ?_ ?_⟩
  .intro k l F H u;have v:eK f h[h.findIdx (eK f)]:=List.findIdx_getElem;rcases LI (h.findIdx (eK f)) k with E|E|E
   .have:=u _ _ E (vA hx);rw[v]at this;cases this
   .rw[E]
   have:=List.not_of_lt_findIdx E;have e:h[k]=l:=by rw[vA ((bN.1 F).1)]at F;exact mQ F
   rw[e,H]at this;simp at this
  intro u;have v:eK f h[h.findIdx (eK f)]:=List.findIdx_getElem;have:=u _ _ (vA hx);rw[v]at this;cases this
 |false=>refine⟨-1,⟨λE=>J,λE=>by cases E⟩,M _ ?_ (λ_=>rfl)⟩;intro k l F H _;have:=HI.1 ha l (a8 F);exact(this H).elim
def avc(f:Int)(h:ae)(j x m x4 n X:PV)(hl:I h<=1000000)(z:j.norm=j/\x.norm=x/\m.norm=m/\x4.norm=x4/\n.norm=n/\X.norm=X):
  aC S 197 [.one (.p (fz h)),.one (.p (Vj f j x m x4 n X))] (cK (h.any (eK f))):=by
 obtain⟨k,u,y⟩:=av2 f h j x m x4 n X hl z;refine ba azr ?_;cases H:h.any _
 case' true=>have v:=u.2 H
 case' false=>have v:¬0<=k:=λA=>by rw[u.1 A]at H;cases H
 all_goals
  simp only[go_sem,apZ,avC,ie y,v]
abbrev PJ(f:Int)(ls:ae)(x2 x3 x4 x5 x6:PV):PV:=.box [.int .i64 f,fz ls,x2,x3,x4,x5,x6]
def ay5(f:Int)(h:ae)(j X x4 m x:PV)(hl:I h<=1000000)(H:j.norm=j/\X.norm=X/\x4.norm=x4/\m.norm=m/\x.norm=x):
  aC S 163 [.one (.p (PJ f h j X x4 m x))] (cK (!h.any (eK f))):=by
 refine ba awJ ?_;simp only[go_sem,aj6,aAS,cS (avc f h _ j X x4 m x hl _),H.1,H.2.1,H.2.2.1,H.2.2.2.1,H.2.2.2.2]
def aGp(f:Int)(h:ae)(L:U)(X n x4 x j:PV)(hl:I h<=1000000)(m:h[0]?=some L):
  aC S 164 [.one (.p (PJ f h X n x4 x j))] (cK (L.kind==1&&aq U.ay h%2==0)):=by
 have E:=fW m;refine ba axt ?_;have u:((((aq U.ay h)%2:Nat):Int)==0)=(aq U.ay h%2==0):=ii
 cases H:(L.kind==1)with
 |true=>simp only[go_sem,YI,E,U.ps,H,adp,ie (ad9 f h hl),tf,kE,u]
 |false=>simp only[go_sem,YI,E,U.ps,H]
def jw(g:Nat)(l:U):Bool:=l.ay&&l.gate==(g:Int)
abbrev aZ(ls:ae)(g:Nat):Nat:=aq (jw g) ls
def uv(h:ae)(F k:Nat):aD:=(List.range (F+1)).map λg=>aZ (h.take k) g
def gY(h:ae)(F:Nat):aD:=(List.range (F+1)).map (aZ h)
def alA{h:ae}{k G:Nat}(H:G<=F):(uv h F k)[G]?=some (aZ (h.take k) G):=by simp[uv,wZ (show G<F+1 by omega)]
def Zg(h:ae)(F:Nat):uv h F (I h)=gY h F:=by simp[uv,gY]
def Yf(h:ae)(F:Nat):uv h F 0=List.replicate (F+1) 0:=by apply yR<;>simp[uv]
def apL{h:ae}{k:Nat}{l:U}(H:h[k]?=some l)(hp:l.ay=false):uv h F (k+1)=uv h F k:=by grind [uv,lZ,jw]
def aih{h:ae}{k G:Nat}{l:U}(m:h[k]?=some l)(hp:l.ay)(j:l.gate=(G:Int)):
  uv h F (k+1)=(uv h F k).set G (aZ (h.take k) G+1):=by
 apply yR
 .simp[uv]
 intro i f H;simp[uv,FZ,JF]
 grind [uY,jw,lZ]
def NX(o:aD)(k n:Nat):(aY o).set k [.int .i64 (n:Int)]=aY (o.set k n):=by simp[vt]
def QU(o:aD):I (aY o)=I o:=aG
def ac2(n m:Nat):aY (List.replicate n m)=List.replicate n [.int .i64 (m:Int)]:=aG
def alR(n:Nat)(b:Bool):dx (List.replicate n b)=List.replicate n [.bool b]:=aG
def Gs{h:ae}{k:Nat}{l:U}(H:h[k]?=some l)(hp:l.ay):dn h (k+1)= !dn h k:=by
 unfold dn;rw[uY H hp]
 grind
theorem Nw{h:ae}{k:Nat}{l:U}(H:h[k]?=some l)(hp:l.ay=false):dn h (k+1)=dn h k:=by unfold dn;rw[lZ H hp]
def ep(h:ae)(i:Nat):Bool:=match h[i]? with|some l=>l.ay&&dn h i|none=>false
def vE(h:ae)(k:Nat):dK:=(List.range (I h)).map λi=>decide (i<k)&&ep h i
def l8(h:ae):dK:=(List.range (I h)).map (ep h)
def ast(h:ae):vE h 0=List.replicate (I h) false:=by apply yR<;>simp[vE]
def av4(h:ae):vE h (I h)=l8 h:=by
 unfold vE l8
 simp_all
def aEo(h:ae)(k:Nat):I (vE h k)=I h:=by simp[vE]
def ato{h:ae}{k:Nat}{l:U}(H:h[k]?=some l)(hp:l.ay=false):vE h (k+1)=vE h k:=by grind [vE,ep]
def aCn{h:ae}{k:Nat}{l:U}(j:h[k]?=some l)(hp:l.ay):vE h (k+1)=(vE h k).set k (dn h k):=by
 apply yR
 .simp[vE]
 intro i H f;simp[vE,FZ,JF]
 grind [ep]
def dX(h:ae)(g:Nat):Nat:=((List.range g).map (aZ h)).sum
def qR(h:ae)(g:Nat):dX h (g+1)=dX h g+aZ h g:=by simp[dX,mJ]
def zn(h:ae)(F k:Nat):aD:=(List.range (F+1)).map λg=>if g<k then dX h g else 0
def LM(h:ae)(F:Nat):aD:=(List.range (F+1)).map (dX h)
def axS(h:ae)(F:Nat):zn h F 0=List.replicate (F+1) 0:=by apply yR<;>simp[zn]
def aAb(h:ae)(F:Nat):zn h F (F+1)=LM h F:=by
 unfold zn LM
 simp_all
def aEA(h:ae)(F k:Nat):I (zn h F k)=F+1:=by simp[zn]
def aw9(h:ae)(F k:Nat):zn h F (k+1)=(zn h F k).set k (dX h k):=by
 apply yR
 .simp[zn]
 intro i H f;simp[zn,FZ,JF]
 grind
def JL{h:ae}{G:Nat}(H:G<=F):(gY h F)[G]?=some (aZ h G):=by simp[gY,wZ (show G<F+1 by omega)]
def aA3{h:ae}{G:Nat}(H:G<=F):(LM h F)[G]?=some (dX h G):=by simp[LM,wZ (show G<F+1 by omega)]
def Ai{h:ae}{a b:Nat}(H:a<=b):dX h a<=dX h b:=by
 induction H with
 |refl=>exact cP _
 |step _ f=>rw[qR];omega
def av7(g:Nat)(a:U):((a.ay&&(decide (0<=a.gate)&&decide (a.gate<((g+1:Nat):Int))))=true)↔((a.ay&&(decide (0<=a.gate)&&decide (a.gate<(g:Int))))=true\/jw g a):=by
 simp[jw,cF,fL,cW]
 grind
def atV(g:Nat)(a:U):(a.ay&&(decide (0<=a.gate)&&decide (a.gate<(g:Int))))=true->jw g a->False:=by simp[jw,cF,fL,cW];omega
def Z1{p q r:U->Bool}(j:∀a,r a↔(p a\/q a))(H:∀a,p a->q a->False):∀h:ae,h.countP r=h.countP p+h.countP q:=by
 intro h
 induction h with
 |nil=>rfl
 |cons a h f=>grind
theorem alf(h:ae):∀g,dX h g=aq (λl=>l.ay&&(decide (0<=l.gate)&&decide (l.gate<((g:Nat):Int)))) h:=by
 intro g
 induction g with
 |zero=>
  symm;show h.countP _=0
  grind
 |succ g f=>rw[qR,f];exact(Z1 (av7 g) (atV g) h).symm
def aaR(h:ae)(g:Nat):dX h g<=I h:=by rw[alf];exact ny _ _
def dN(h:ae)(l:U):Nat:=dX h l.gate.toNat+l.ao.toNat-1
def wJ(h:ae)(p i:Nat):Bool:=match h[i]? with|some l=>l.ay&&dN h l==p|none=>false
def zO(h:ae)(T k:Nat):dK:=(List.range T).map λp=>(List.range k).any (wJ h p)
def PA(h:ae)(k p:Nat):Nat:=((List.range k).find? (wJ h p)).getD 0
def u5(h:ae)(T k:Nat):aD:=(List.range T).map (PA h k)
def Df(h:ae)(i:Nat):Nat:=match h[i]? with|some l=>if l.ay then dN h l else 0|none=>0
def lT(h:ae)(k:Nat):aD:=(List.range (I h)).map λi=>if i<k then Df h i else 0
def zt(h:ae)(i:Nat):Bool:=match h[i]? with
 |some l=> !l.ay||(decide (1<=l.ao)&&decide (l.ao<=(aZ h l.gate.toNat:Int)))&& !(List.range i).any (wJ h (dN h l))
 |none=>true
def DC(h:ae):Bool:=(List.range (I h)).all (zt h)
def aE3(h:ae)(T:Nat):zO h T 0=List.replicate T false:=by apply yR<;>simp[zO]
def axD(h:ae)(T:Nat):u5 h T 0=List.replicate T 0:=by apply yR<;>simp[u5,PA]
def aEm(h:ae):lT h 0=List.replicate (I h) 0:=by apply yR<;>simp[lT]
def aim(h:ae)(T k:Nat):I (u5 h T k)=T:=by simp[u5]
def aGw(h:ae)(k:Nat):I (lT h k)=I h:=by simp[lT]
def aBM{h:ae}{k p:Nat}(H:p<T):(zO h T k)[p]?=some ((List.range k).any (wJ h p)):=by simp[zO,H]
def ap8{h:ae}{k p:Nat}{l:U}(H:h[k]?=some l)(hp:l.ay=false):wJ h p k=false:=by simp[wJ,H,hp]
def av8{h:ae}{k:Nat}{l:U}(H:h[k]?=some l)(hp:l.ay=false):zO h T (k+1)=zO h T k:=by unfold zO;congr 1;funext p;simp[mJ,List.any_append,ap8 H hp]
def atq{h:ae}{k:Nat}{l:U}(H:h[k]?=some l)(hp:l.ay=false):u5 h T (k+1)=u5 h T k:=by unfold u5;congr 1;funext p;simp[PA,mJ,Z7,ap8 H hp]
def atp{h:ae}{k:Nat}{l:U}(H:h[k]?=some l)(hp:l.ay=false):lT h (k+1)=lT h k:=by grind [lT,Df]
def aoy{h:ae}{k p:Nat}{l:U}(H:h[k]?=some l)(hp:l.ay):wJ h p k=(dN h l==p):=by simp[wJ,H,hp]
def aEV{h:ae}{k:Nat}{l:U}(f:h[k]?=some l)(hp:l.ay):zO h T (k+1)=(zO h T k).set (dN h l) true:=by
 apply yR
 .simp[zO]
 intro i H j;simp[zO,FZ,JF,mJ,List.any_append,Vr,Tq,Rt,aoy f hp]
 grind
def aDe{h:ae}{k:Nat}{l:U}(m:h[k]?=some l)(hp:l.ay)(j:(List.range k).any (wJ h (dN h l))=false):u5 h T (k+1)=(u5 h T k).set (dN h l) k:=by
 apply yR
 .simp[u5]
 intro i f H;rw[List.getElem_set];simp[u5,FZ,JF,PA,mJ,Z7]
 grind [wJ]
def asx{h:ae}{k:Nat}{l:U}(j:h[k]?=some l)(hp:l.ay):lT h (k+1)=(lT h k).set k (dN h l):=by
 apply yR
 .simp[lT]
 intro i H f;simp[lT,FZ,JF]
 grind [Df]
def ada{h:ae}{k:Nat}(H:k<I h)(f:zt h k=false):DC h=false:=by
 unfold DC
 grind
def ayx{h:ae}(H:∀i,i<I h->zt h i):DC h:=by
 unfold DC
 grind
abbrev N0(id:Nat):Prop:=id=5056320128\/lf id=165
abbrev yV(F:Nat)(ls:ae)(c2 c4 fv c5 fZ:cG):eC:=[.p (.int .i64 (F:Int)),.p (fz ls),c2,c4,fv,c5,fZ]
abbrev af(id g n:Nat):cG:=.hsl id g 1 0 n
abbrev xk(F:Nat)(ls:ae):Prop:=∀l∈ls,l.ay->0<=l.gate/\l.gate<=(F:Int)
def MB(F:Nat)(h:ae)(g:Nat)(A:cG)(m:aH)(v:V)(f:aH):Prop:=
 v=iB (DC h)/\dk N0 m f/\(DC h->∃g1 D B j,f 5056320128=(g,some (.var (yV F h (af 10560128448 D (I h)) (af 10561344128 j (dX h (F+1))) (af 10560192448 B (I h)) A (af 10560064448 g1 (F+1)))))/\
  f 10560064448=(g1,some (.arr 3 1 (aY (gY h F))))/\f 10560128448=(D,some (.arr 4 1 (dx (l8 h))))/\f 10560192448=(B,some (.arr 3 1 (aY (lT h (I h)))))/\
  f 10561344128=(j,some (.arr 3 1 (aY (u5 h (dX h (F+1)) (I h))))))
def aDv{al:cD}(O:al.ok 5056320128)(ok:∀id,lf id=165->al.ok id){mN blk:aH}{g g1 g4 F:Nat}{h:ae}{c4:cG}(hl:I h<=1000000)(hF:F<=1000000)(hg:xk F h)
  (z:m 0=.one (.aW 5056320128 g 0)) (h6:m 6=.one (af 10560832384 g4 (F+1))) (h7:m 7=ai (dX h (F+1)))
  (y:blk 5056320128=(g,some (.var (yV F h (af 10560128448 D (I h)) c4 (af 10560192448 B (I h)) A (af 10560064448 g1 (F+1))))))
  (x:blk 10560064448=(g1,some (.arr 3 1 (aY (gY h F))))) (bW:blk 10560128448=(D,some (.arr 4 1 (dx (l8 h))))) (pK:blk 10560192448=(B,some (.arr 3 1 (aY (lT h 0)))))
  (bF:blk 10560832384=(g4,some (.arr 3 1 (aY (LM h F))))) (hk:dk N0 mN blk):W S al ab5 (rU al [(2,none)] (MB F h g A mN)) m blk:=by
 have o1:=ok 10560064448 rfl;have o2:=ok 10560128448 rfl;have o3:=ok 10560192448 rfl;have o4:=ok 10560448192 rfl;have o5:=ok 10560832384 rfl;have o6:=ok 10561344128 rfl;have o7:=ok 10561408064 rfl;have o8:=ok 10561600192 rfl;have hT:=aaR h (F+1);have QM:dX h (F+1)*8<=140737488355328:=J;have lO:dX h (F+1)<=140737488355328:=J;simp only[go_sem,ab5,z,h7,y,QM,lO,O,o6,o7];refine cZ (λk m v=>m 0=.one (.aW 5056320128 g 0)/\m 6=.one (af 10560832384 g4 (F+1))/\m 10=.one (af 10561408064 ((blk 10561408064).1+1) (dX h (F+1)))/\m 114=.one (.p (fz h))/\m 115=ai (I h)/\m 116=ai k/\
  v 5056320128=(g,some (.var (yV F h (af 10560128448 D (I h)) (af 10561344128 ((blk 10561344128).1+1) (dX h (F+1))) (af 10560192448 B (I h)) A (af 10560064448 g1 (F+1)))))/\
  v 10560064448=(g1,some (.arr 3 1 (aY (gY h F))))/\v 10560128448=(D,some (.arr 4 1 (dx (l8 h))))/\v 10560192448=(B,some (.arr 3 1 (aY (lT h k))))/\
  v 10560832384=(g4,some (.arr 3 1 (aY (LM h F))))/\v 10561344128=((blk 10561344128).1+1,some (.arr 3 1 (aY (u5 h (dX h (F+1)) k))))/\v 10561408064=((blk 10561408064).1+1,some (.arr 4 1 (dx (zO h (dX h (F+1)) k))))/\
  (∀i,i<k->zt h i)/\dk N0 mN v) 0 (I h) (bj _) ?_ ?_
 .simp only[go_sem,z,h6,x,bW,pK,bF,axD,aE3,ac2,alR];refine⟨rfl,rfl,λi N=>absurd N (oJ i),?_⟩;repeat(first|exact hk|refine dk.dz ?_ dl _)
 rintro k m v hk ⟨z,h6,dZ,P0,Y,X,y,x,bW,pK,bF,bA,bT,aB,T⟩
 by_cases L:k<I h
 .obtain⟨l,f⟩:=aP L;have u:=fW f;have Z:((k:Int)<(I h:Int)):=J;have w1:=cg (n:=k) J;cases hp:(l.kind==1)with
  |false=>
   have j:l.ay=false:=hp;have Q:(l.kind !=1):=aIn
   simp only[go_sem,Jb,z,h6,dZ,P0,Y,X,y,x,bW,bF,pK,bA,bT,u,U.ps,Z,Q,w1,o8];refine⟨L,?_,?_,?_,?_,?_⟩
   .rw[atp f j]
   .rw[atq f j]
   .rw[av8 f j]
   .intro i u;rcases vq.1 u with N|rfl
    .exact aB i N
    exact by simp[zt,f,j]
   repeat(first|exact T|refine dk.dz ?_ dl _)
  |true=>
   have j:l.ay:=hp;have Q:(l.kind !=1)=false:=aIn
   obtain⟨Dp,an⟩:=hg l (a8 f) j;obtain⟨G,hG⟩:=lV Dp;have zE:G<=F:=J;have Gn:G<F+1:=J;have tH:=i_ (JL (h:=h) zE);have EN:=i_ (aA3 (h:=h) zE);have jV:l.gate.toNat=G:=J;cases r1:decide (l.ao<1)with
   |true=>have wL:=xT r1;have ab:¬1<=l.ao:=J;have E:=ada L (by simp[zt,f,j,ab]);simp only[go_sem,Jb,P0,Y,X,u,U.ps,Z,Q,wL,o8];refine⟨aK,?_⟩;unfold MB;refine⟨by rw[E],?_,λN=>by rw[E]at N;cases N⟩;repeat(first|exact T|refine dk.dz ?_ dl _)
   |false=>
    have wL:=tq r1;obtain⟨R,hR⟩:=lV (show 0<=l.ao by omega);have M:¬((R:Int)<1):=J;cases r2:decide ((aZ h G:Int)<(R:Int))with
    |true=>
     have xJ:=xT r2;have ag:¬l.ao<=(aZ h l.gate.toNat:Int):=by rw[jV];omega
     have E:=ada L (by simp[zt,f,j,ag]);simp only[go_sem,Jb,z,P0,Y,X,y,x,u,U.ps,Z,Q,hR,hG,M,xJ,tH,Gn,O,o1,o8];refine⟨aK,?_⟩;unfold MB;refine⟨by rw[E],?_,λN=>by rw[E]at N;cases N⟩;repeat(first|exact T|refine dk.dz ?_ dl _)
    |false=>
     have xJ:=tq r2;have am:=aaR h G;have ad:=Ai (h:=h) (show G+1<=F+1 by omega);have EP:=qR h G;have H:dN h l<dX h (F+1):=by unfold dN;rw[jV];omega
     have bQ:dX h G+R-1=dN h l:=by unfold dN;rw[jV];omega
     have eh:aZ h G<=I h:=ny _ _;have w2:=uh (a:=dX h G) (b:=R) J;have w3:=EU (a:=dX h G+R) J J;rw[bQ]at w3;have Kx:=rB (aBM (h:=h) (k:=k) H);cases hu:(List.range k).any (wJ h (dN h l))with
     |true=>rw[hu]at Kx;have E:=ada L (by simp[zt,f,j,hu]);simp only[go_sem,Jb,z,h6,dZ,P0,Y,X,y,x,bF,bT,u,U.ps,Z,Q,hR,hG,M,xJ,tH,EN,Gn,w2,w3,Kx,H,O,o1,o5,o7,o8];refine⟨aK,aK,?_⟩;unfold MB;refine⟨by rw[E],?_,λN=>by rw[E]at N;cases N⟩;repeat(first|exact T|refine dk.dz ?_ dl _)
     |false=>
      rw[hu]at Kx;have jj:zt h k:=by
       have e1:1<=l.ao:=J;have e2:l.ao<=(aZ h l.gate.toNat:Int):=by rw[jV];omega
       simp[zt,f,e1,e2,hu]
      obtain⟨a0,De⟩:=aP (show dN h l<I (u5 h (dX h (F+1)) k) by rw[aim];exact H);obtain⟨p0,sO⟩:=aP (show k<I (lT h k) by rw[aGw];exact L);have s1:=LS (zO h (dX h (F+1)) k) (dN h l) true;rw[<-aEV f j]at s1;have s2:=NX (u5 h (dX h (F+1)) k) (dN h l) k;rw[<-aDe f j hu]at s2;have xj:=NX (lT h k) k (dN h l);rw[<-asx f j]at xj;simp only[go_sem,Jb,z,h6,dZ,P0,Y,X,y,x,bW,bF,pK,bA,bT,u,U.ps,Z,L,Q,w1,hR,hG,M,xJ,tH,EN,Gn,w2,w3,Kx,H,i_ De,i_ sO,s1,s2,xj,O,o1,o3,o5,o6,o7,o8];refine⟨aK,aK,aK,?_,?_⟩
      .intro i u;rcases vq.1 u with N|rfl
       .exact aB i N
       exact jj
      repeat(first|exact T|refine dk.dz ?_ dl _)
 have:k=I h:=J;subst this;simp only[go_sem,Jb,akG,Y,X,ek];exact⟨by rw[ayx aB],T,λ_=>⟨g1,D,B,(blk 10561344128).1+1,y,x,bW,pK,bA⟩⟩
def aA7{al:cD}(O:al.ok 5056320128)(ok:∀id,lf id=165->al.ok id){M blk:aH}{g g1 F:Nat}{h:ae}{c4:cG}(hl:I h<=1000000)(hF:F<=1000000)(hg:xk F h)
  (H:m 0=.one (.aW 5056320128 g 0))
  (j:blk 5056320128=(g,some (.var (yV F h (af 10560128448 D (I h)) c4 (af 10560192448 B (I h)) A (af 10560064448 g1 (F+1))))))
  (x:blk 10560064448=(g1,some (.arr 3 1 (aY (gY h F))))) (bW:blk 10560128448=(D,some (.arr 4 1 (dx (l8 h))))) (y:blk 10560192448=(B,some (.arr 3 1 (aY (lT h 0)))))
  (N:dk N0 M blk):W S al ac6 (rU al [(2,none)] (MB F h g A M)) m blk:=by
 have o1:=ok 10560064448 rfl;have o2:=ok 10560128448 rfl;have o3:=ok 10560192448 rfl;have o4:=ok 10560448192 rfl;have Q:=ok 10560832384 rfl;have o6:=ok 10561344128 rfl;have o7:=ok 10561408064 rfl;have o8:=ok 10561600192 rfl;have QM:(F+1)*8<=140737488355328:=J;have wF:=cg (n:=F) J;simp only[go_sem,ac6,H,j,wF,QM,O,Q];refine cZ (λk m f=>m 0=.one (.aW 5056320128 g 0)/\m 6=.one (af 10560832384 ((blk 10560832384).1+1) (F+1))/\m 7=ai (dX h k)/\m 88=.one (af 10560064448 g1 (F+1))/\m 89=ai ((F+1:Nat):Int)/\m 90=ai k/\
  f 5056320128=(g,some (.var (yV F h (af 10560128448 D (I h)) c4 (af 10560192448 B (I h)) A (af 10560064448 g1 (F+1)))))/\
  f 10560064448=(g1,some (.arr 3 1 (aY (gY h F))))/\f 10560128448=(D,some (.arr 4 1 (dx (l8 h))))/\f 10560192448=(B,some (.arr 3 1 (aY (lT h 0))))/\
  f 10560832384=((blk 10560832384).1+1,some (.arr 3 1 (aY (zn h F k))))/\dk N0 M f) 0 (F+1) (bj _) ?_ ?_
 .simp only[go_sem,H,j,x,bW,y,axS,ac2];refine⟨rfl,rfl,rfl,?_⟩;repeat(first|exact N|refine dk.dz ?_ dl _)
 rintro k m f N ⟨H,X,R,z,u,v,j,x,bW,y,bF,Z⟩
 by_cases L:k<F+1
 .have aL:((k:Int)<((F+1:Nat):Int)):=J;have w1:=cg (n:=k) J;have hc:=i_ (JL (h:=h) (show k<=F by omega));obtain⟨a0,E⟩:=aP (show k<I (zn h F k) by rw[aEA];exact L);have E:=i_ E;have T:=NX (zn h F k) k (dX h k);rw[<-aw9]at T;have af:=qR h k;have ab:=aaR h (k+1);have Y:=uh (a:=dX h k) (b:=aZ h k) J;rw[<-af]at Y;simp only[go_sem,abm,H,X,R,z,u,v,j,x,bW,y,bF,L,aL,hc,E,T,w1,Y,o1,Q];repeat(first|exact Z|refine dk.dz ?_ dl _)
 have:k=F+1:=J;subst this;simp only[go_sem,abm,u,v,ek];exact aDv O ok hl hF hg H X R j x bW y (by rw[bF,aAb]) Z
def aAK{al:cD}(O:al.ok 5056320128)(ok:∀id,lf id=165->al.ok id){blk:aH}{g F:Nat}{h:ae}{c4 fv fZ:cG}(hl:I h<=1000000)(hF:F<=1000000)(T:xk F h)
  (B:blk 5056320128=(g,some (.var (yV F h E c4 fv A fZ)))):∃v f,ja S 165 [.one (.aW 5056320128 g 0)] al blk v f/\MB F h g A blk v f:=by
 have o1:=ok 10560064448 rfl;have Z:=ok 10560128448 rfl;have o3:=ok 10560192448 rfl;have o4:=ok 10560448192 rfl;have o5:=ok 10560832384 rfl;have o6:=ok 10561344128 rfl;have o7:=ok 10561408064 rfl;have o8:=ok 10561600192 rfl;refine mL aFj (jg rfl) ?_;have QM:(F+1)*8<=140737488355328:=J;have M:I h*8<=140737488355328:=J;have lD:I h<=140737488355328:=J;have wF:=cg (n:=F) J;simp only[go_sem,amE,B,wF,QM,M,lD,O,o1,Z,o3];refine cZ (λk m f=>m 0=.one (.aW 5056320128 g 0)/\m 3=iB (dn h k)/\m 48=.one (.p (fz h))/\m 49=ai (I h)/\m 50=ai k/\
  f 5056320128=(g,some (.var (yV F h (af 10560128448 ((blk 10560128448).1+1) (I h)) c4 (af 10560192448 ((blk 10560192448).1+1) (I h)) A (af 10560064448 ((blk 10560064448).1+1) (F+1)))))/\
  f 10560064448=((blk 10560064448).1+1,some (.arr 3 1 (aY (uv h F k))))/\f 10560128448=((blk 10560128448).1+1,some (.arr 4 1 (dx (vE h k))))/\f 10560192448=((blk 10560192448).1+1,some (.arr 3 1 (aY (lT h 0))))/\
  dk N0 blk f) 0 (I h) (bj _) ?_ ?_
 .simp only[go_sem,B,Yf,ast,aEm,ac2,alR];refine⟨rfl,rfl,rfl,rfl,?_⟩;repeat(first|exact(dk.refl _ _)|refine dk.dz ?_ dl _)
 rintro k m f hk ⟨z,h3,Qb,x,H,B,D,bW,N,Q⟩
 by_cases y:k<I h
 .obtain⟨l,u⟩:=aP y;have hi:=fW u;have X:((k:Int)<(I h:Int)):=J;have R:=cg (n:=k) J;cases hp:(l.kind==1)with
  |false=>
   have j:=hp;simp only[go_sem,WI,z,h3,Qb,x,H,B,D,bW,N,hi,U.ps,X,hp,R,o4];refine⟨y,?_,?_,?_,?_⟩
   .rw[Nw u j]
   .rw[apL u j]
   .rw[ato u j]
   repeat(first|exact Q|refine dk.dz ?_ dl _)
  |true=>have j:=hp;obtain⟨Dp,ab⟩:=T l (a8 u) j;obtain⟨G,hG⟩:=lV Dp;have zE:G<=F:=J;have Gn:G<F+1:=J;have tH:=i_ (alA (h:=h) (k:=k) zE);have eh:aZ (h.take k) G<=k:=B8 _ _ _;have w2:=cg (n:=aZ (h.take k) G) J;have s1:=NX (uv h F k) G (aZ (h.take k) G+1);rw[<-aih u j hG]at s1;obtain⟨b0,L⟩:=aP (show k<I (vE h k) by rw[aEo];exact y);have L:=rB L;have Y:=LS (vE h k) k (dn h k);rw[<-aCn u j]at Y;have hd:=Gs u j;simp only[go_sem,WI,z,h3,Qb,x,H,B,D,bW,N,hi,U.ps,X,y,hp,R,hG,tH,Gn,w2,s1,L,Y,hd,O,o1,Z,o4];refine⟨aK,?_⟩;repeat(first|exact Q|refine dk.dz ?_ dl _)
 have:k=I h:=J;subst this;simp only[go_sem,WI,x,H,ek];exact aA7 O ok hl hF T z B (by rw[D,Zg]) (by rw[bW,av4]) N Q
def vb(h:ae)(id:Int)(o:Bool)(j:Nat):Bool:=match h[j]? with|some m=>m.au&&(m.id==id&&m.over==o)|none=>false
def ju(h:ae)(k:Nat)(id:Int)(o:Bool):eF:=(List.range k).find? (vb h id o)
def Fo:eF->Int
 |some j=>j
 |none=> -1
def gL(h:ae):Nat->cT
 |0=>[]
 |k+1=>match h[k]? with
  |some l=>if l.au&& !(gL h k).contains l.id then gL h k++[l.id]else gL h k
  |none=>gL h k
def tS(h:ae)(k:Nat)(id:Int):dR:=[.int .i64 (Fo (ju h k id false)),.int .i64 (Fo (ju h k id true))]
def qS(h:ae)(k:Nat):zf:=(gL h k).map λid=>(PV.int .i64 id,tS h k id)
def FC(h:ae)(j:Nat):Int:=((h[j]?).map U.sign).getD 0
def pk(h:ae)(y:Nat)(k:Nat):Bool:=match h[k]? with
 |some l=> !l.au||((decide (1<=l.id)&&decide (l.id<=(y:Int)))&&((ju h k l.id l.over).isNone&&(match ju h k l.id (!l.over)with|some j=>FC h j==l.sign|none=>true)))
 |none=>true
def oH(h:ae):Bool:=(aq U.au h%2==0)&&(List.range (I h)).all (pk h (aq U.au h/2))&&(I (gL h (I h))==aq U.au h/2)
theorem Li{h:ae}{k:Nat}{l:U}(f:h[k]?=some l)(H:l.au)(id:Int)(o:Bool):vb h id o k=(l.id==id&&l.over==o):=by simp[vb,f,H]
theorem amt{h:ae}{k:Nat}{l:U}(f:h[k]?=some l)(H:l.au=false)(id:Int)(o:Bool):vb h id o k=false:=by simp[vb,f,H]
theorem Xc(h:ae)(k:Nat)(id:Int)(o:Bool):ju h (k+1) id o=(ju h k id o).or (if vb h id o k then some k else none):=by simp[ju,mJ,Z7,OY,List.find?_nil];cases vb h id o k<;>rfl
def NW{h:ae}{k:Nat}{id:Int}{o:Bool}(H:ju h k id o=some j):j<k/\vb h id o j:=
 ⟨fU.1 (AP H),BK H⟩
theorem FG{h:ae}{id:Int}{o:Bool}(H:vb h id o j):∃m,h[j]?=some m/\m.au/\m.id=id/\m.over=o:=by
 unfold vb at H
 grind
theorem Si{h:ae}{k:Nat}{id:Int}{o:Bool}(f:ju h k id o=none)(H:j<k):vb h id o j=false:=by
 have:=Fw.1 f j (fU.2 H)
 exact aIE
theorem apo{h:ae}{k:Nat}{l:U}(f:h[k]?=some l)(H:l.au=false):gL h (k+1)=gL h k:=by simp[gL,f,H]
def aFO{h:ae}{k:Nat}{l:U}(j:h[k]?=some l)(f:l.au)(H:l.id∉gL h k):gL h (k+1)=gL h k++[l.id]:=by simp[gL,j,f,H]
def axc{h:ae}{k:Nat}{l:U}(f:h[k]?=some l)(H:l.id∈gL h k):gL h (k+1)=gL h k:=by simp[gL,f,H]
def atP{h:ae}{k:Nat}{l:U}(f:h[k]?=some l)(H:l.au=false):qS h (k+1)=qS h k:=by grind [qS,tS,apo,Xc,amt]
def ar3{h:ae}{id:Int}:∀(k:Nat),k<=I h->(id∈gL h k↔ ∃j o,j<k/\vb h id o j):=by
 intro k
 induction k with
 |zero=>intro _;simp[gL]
 |succ k m=>
  intro u;obtain⟨l,hl⟩:=aP (show k<I h by omega);have m:=m J;cases n:l.au with
  |false=>grind [apo,amt]
  |true=>
   have f:id∈gL h (k+1)↔(id∈gL h k\/id=l.id):=by grind [gL]
   rw[f,m];constructor
   .rintro (v|rfl)
    .exact(λ⟨j,o,x,H⟩=>⟨j,o,J,H⟩) v
    exact⟨k,l.over,J,by rw[Li hl n];simp⟩
   grind [Li]
where gT {p:Prop} (h:p):p:=h
theorem H4{h:ae}{id:Int}{k:Nat}(H:k<=I h):id∈gL h k↔ ∃j o,j<k/\vb h id o j:=ar3 k H
theorem Vp(h:ae):∀k,(gL h k).Nodup:=by
 intro k
 induction k with
 |zero=>simp[gL]
 |succ k f=>
  unfold gL
  grind
def aFo{h:ae}{k:Nat}(H:k<=I h){id:Int}(f:id∉gL h k)(o:Bool):ju h k id o=none:=by grind [ju,H4]
def alo{h:ae}{k:Nat}(v:k<=I h){id:Int}(x:id∈gL h k)(o:Bool)(u:ju h k id o=none):∃j m,ju h k id (!o)=some j/\h[j]?=some m/\j<k:=by
 obtain⟨j,O,n,H⟩:=(H4 v).1 x;by_cases e:O=o
 .subst e;rw[Si u n]at H;cases H
 have e:O= !o:=by cases o<;>cases O<;>simp_all
 subst e;cases f:ju h k id (!o)with
 |none=>rw[Si f n]at H;cases H
 |some i=>
  obtain _:=NW f
  grind [FG]
def afL{h:ae}{k:Nat}{l:U}(j:h[k]?=some l)(f:l.au){id:Int}(H:¬l.id=id)(o:Bool):ju h (k+1) id o=ju h k id o:=by rw[Xc,Li j f];simp[H]
def YX{h:ae}{k:Nat}{l:U}(j:h[k]?=some l)(f:l.au)(H:ju h k l.id l.over=none):ju h (k+1) l.id l.over=some k:=by rw[Xc,Li j f,H];simp
def X9{h:ae}{k:Nat}{l:U}(f:h[k]?=some l)(H:l.au):ju h (k+1) l.id (!l.over)=ju h k l.id (!l.over):=by rw[Xc,Li f H];cases l.over<;>simp
theorem amg{h:ae}{k:Nat}{l:U}(j:h[k]?=some l)(f:l.au){id:Int}(H:¬l.id=id):tS h (k+1) id=tS h k id:=by unfold tS;rw[afL j f H,afL j f H]
def azh{h:ae}{k:Nat}{l:U}(j:h[k]?=some l)(f:l.au)(H:l.id∉gL h k):qS h (k+1)=qS h k++[(.int .i64 l.id,tS h (k+1) l.id)]:=by
 unfold qS;rw[aFO j f H,iT]
 grind [s7,amg]
def aAu{h:ae}{k:Nat}{l:U}(f:h[k]?=some l)(n:l.au)(H:l.id∈gL h k):qS h (k+1)=(qS h k).set ((gL h k).idxOf l.id) (.int .i64 l.id,tS h (k+1) l.id):=by
 unfold qS;rw[axc f H];apply yR
 .simp
 intro i m j
 grind [amg,Vp]
def ahW(h:ae)(k:Nat)(q:Int):zW (.int .i64 q) (qS h k) 0=some (if q∈gL h k then some ((gL h k).idxOf q,tS h k q)else none):=by unfold qS;rw[ark];simp
def Mp{h:ae}{k:Nat}(H:k<I h)(f:pk h (aq U.au h/2) k=false):oH h=false:=by have:(List.range (I h)).all (pk h (aq U.au h/2))=false:=XV.2 ⟨k,fU.2 H,by simp[f]⟩;simp[oH,this]
def aa0{h:ae}(H:aq U.au h%2=0)(j:∀i,i<I h->pk h (aq U.au h/2) i):oH h=(I (gL h (I h))==aq U.au h/2):=by have:=mz.2 λi f=>j i (fU.1 f);simp[oH,this,H]
abbrev alO(id:Nat):Prop:=id=5056320128\/lf id=166
def IX(F:Nat)(h:ae)(g:Nat)(E c4 fv fZ:cG)(m:aH)(v:V)(A:aH):Prop:=v=iB (oH h)/\dk alO m A/\(oH h->∃g1,A 5056320128=(g,some (.var (yV F h E c4 fv (.ow 10624256064 g1) fZ)))/\A 10624256064=(g1,some (.map true (qS h (I h)))))
def anE(j:Nat):decide ((0:Int)<=(j:Int))=true:=uG J
def ag9:IntKind.i64.wrap 0=0:=aa
def Yd:IntKind.i64.wrap 1=1:=aa
def Rx:((-1:Int)≥0)=False:=aG
def aHD:((0:Int)<= -1)=False:=aG
def axA{al:cD}(O:al.ok 5056320128)(ok:∀id,lf id=166->al.ok id){blk:aH}{g F:Nat}{h:ae}{c4 fv fZ:cG}(hl:I h<=1000000)
  (B:blk 5056320128=(g,some (.var (yV F h E c4 fv A fZ)))):∃v ak,ja S 166 [.one (.aW 5056320128 g 0)] al blk v ak/\IX F h g E c4 fv fZ blk v ak:=by
 have o1:=ok 10624256064 rfl;have o2:=ok 10624448192 rfl;have o3:=ok 10624704640 rfl;refine mL auW (jg rfl) ?_;have pc:=ad0 F h hl;have eh:aq U.au h<=I h:=ny _ _;cases he:(((aq U.au h%2:Nat):Int)!=0)with
 |true=>
  have f:oH h=false:=by
   have:(aq U.au h%2==0)=false:=by simp at he |-;omega
   simp[oH,this]
  simp only[go_sem,adT,B,J4,TN pc,tf,kE,he,O];exact⟨by rw[f],dk.refl _ _,λy=>by rw[f]at y;cases y⟩
 |false=>
  have ad:aq U.au h%2=0:=by simp at he;omega
  simp only[go_sem,adT,B,J4,TN pc,tf,kE,he,O,o1];refine cZ (λk m ak=>m 0=.one (.aW 5056320128 g 0)/\m 3=ai (aq U.au h)/\m 25=.one (.p (fz h))/\m 26=ai (I h)/\m 27=ai k/\
   ak 5056320128=(g,some (.var (yV F h E c4 fv (.ow 10624256064 ((blk 10624256064).1+1)) fZ)))/\ak 10624256064=((blk 10624256064).1+1,some (.map true (qS h k)))/\
   (∀i,i<k->pk h (aq U.au h/2) i)/\dk alO blk ak) 0 (I h) (bj _) ?_ ?_
  .simp only[go_sem,B];refine⟨rfl,rfl,λi y=>absurd y (oJ i),?_⟩;repeat(first|exact(dk.refl _ _)|refine dk.dz ?_ dl _)
  rintro k m ak hk ⟨h0,Y,Z,N,Q,B,bM,aB,R⟩
  have wq:IntKind.i64.wrap ((aq U.au h/2:Nat):Int)=((aq U.au h/2:Nat):Int):=wrap_small J;by_cases T:k<I h
  .obtain⟨l,z⟩:=aP T;have x:=fW z;have X:((k:Int)<(I h:Int)):=J;have w1:=cg (n:=k) J;cases hc:(l.kind==2)with
   |false=>
    have D:l.au=false:=hc;have hp:(l.kind !=2):=by simp[bne,hc]
    have jj:pk h (aq U.au h/2) k:=by simp[pk,z,D]
    simp only[go_sem,AS,h0,Y,Z,N,Q,B,bM,x,U.ps,X,hp,w1,o2];refine⟨T,?_,?_,?_⟩
    .rw[atP z D]
    .intro i x;rcases vq.1 x with y|rfl
     .exact aB i y
     exact jj
    repeat(first|exact R|refine dk.dz ?_ dl _)
   |true=>
    have D:l.au:=hc;have hp:(l.kind !=2)=false:=by simp[bne,hc]
    cases r1:decide (l.id<1)with
    |true=>have wL:l.id<1:=xT r1;have ag:¬1<=l.id:=J;have f:=Mp T (show pk h (aq U.au h/2) k=false by simp[pk,z,D,ag]);simp only[go_sem,AS,Z,N,Q,x,U.ps,X,hp,wL,o2];unfold IX;refine⟨by rw[f],?_,λy=>by rw[f]at y;cases y⟩;repeat(first|exact R|refine dk.dz ?_ dl _)
    |false=>
     have wL:¬l.id<1:=tq r1;have am:1<=l.id:=J;cases r2:decide (((aq U.au h/2:Nat):Int)<l.id)with
     |true=>have xJ:((aq U.au h/2:Nat):Int)<l.id:=xT r2;have ap:¬l.id<=((aq U.au h/2:Nat):Int):=J;have f:=Mp T (show pk h (aq U.au h/2) k=false by simp only[pk,z,D,ap];simp);simp only[go_sem,AS,Y,Z,N,Q,x,U.ps,X,hp,wL,xJ,n_,kE,wq,o2];unfold IX;refine⟨by rw[f],?_,λy=>by rw[f]at y;cases y⟩;repeat(first|exact R|refine dk.dz ?_ dl _)
     |false=>
      have xJ:¬((aq U.au h/2:Nat):Int)<l.id:=tq r2;have an:l.id<=((aq U.au h/2:Nat):Int):=J;have hf:=ahW h k l.id;have rh:pk h (aq U.au h/2) k=((ju h k l.id l.over).isNone&&(match ju h k l.id (!l.over)with|some j=>FC h j==l.sign|none=>true)):=by simp only[pk,z,D,am,an,decide_true];rfl
      by_cases hm:l.id∈gL h k
      .rw[aI hm]at hf;obtain⟨e0,ar⟩:=aP (show(gL h k).idxOf l.id<I (qS h k) by simp[qS];exact List.idxOf_lt_length_of_mem hm);have EW:=aAu z D hm;have Ux:tS h k l.id=[.int .i64 (Fo (ju h k l.id false)),.int .i64 (Fo (ju h k l.id true))]:=rfl;rw[Ux]at hf;cases H:l.over with
       |true=>
        cases u:ju h k l.id true with
        |some j=>have f:=Mp T (show pk h (aq U.au h/2) k=false by rw[rh,H,u];rfl);rw[u]at hf;simp only[Fo]at hf;simp only[go_sem,AS,h0,Y,Z,N,Q,B,bM,x,U.ps,X,hp,wL,xJ,n_,kE,wq,hf,H,anE,vc,uO,pz,Int.reduceNeg,O,o1,o2,o3];refine⟨aK,aK,?_⟩;unfold IX;refine⟨by rw[f],?_,λy=>by rw[f]at y;cases y⟩;repeat(first|exact R|refine dk.dz ?_ dl _)
        |none=>
         obtain⟨j,ab,L,Km,QB⟩:=alo hk hm true u;have L:ju h k l.id false=some j:=L;have A5:=fW Km;have No:FC h j=ab.sign:=by simp[FC,Km]
         rw[u,L]at hf;simp only[Fo]at hf;cases af:(ab.sign==l.sign)with
         |false=>
          have ir:(ab.sign !=l.sign):=aIo
          have f:=Mp T (show pk h (aq U.au h/2) k=false by rw[rh,H,u];simp only[AL,L,No,af];rfl);simp only[go_sem,AS,h0,Y,Z,N,Q,B,bM,x,U.ps,X,hp,wL,xJ,n_,kE,wq,hf,H,Rx,A5,ir,ag9,vc,uO,pz,Int.reduceNeg,Int.reduceSub,O,o1,o2,o3];refine⟨aK,aK,?_⟩;unfold IX;refine⟨by rw[f],?_,λy=>by rw[f]at y;cases y⟩;repeat(first|exact R|refine dk.dz ?_ dl _)
         |true=>
          have ir:(ab.sign !=l.sign)=false:=aIo
          have jj:pk h (aq U.au h/2) k:=by rw[rh,H,u];simp only[AL,L,No,af];rfl
          have ur:=YX z D (show ju h k l.id l.over=none by rw[H];exact u);have M:=X9 z D;rw[H]at ur M;rw[show ju h k l.id (!true)=some j from L]at M;have Zk:tS h (k+1) l.id=[.int .i64 (j:Int),.int .i64 (k:Int)]:=by simp only[tS];rw[ur,show ju h (k+1) l.id false=some j from M];rfl
          rw[Zk]at EW;simp only[go_sem,AS,h0,Y,Z,N,Q,B,bM,x,U.ps,X,hp,w1,wL,xJ,n_,kE,wq,hf,H,Rx,A5,ir,ag9,vc,uO,pz,HR,Int.reduceNeg,Int.reduceSub,O,o1,o2,o3];refine⟨aK,aK,aK,?_⟩;refine⟨T,?_,?_,?_⟩
          .rw[EW]
          .intro i x;rcases vq.1 x with y|rfl
           .exact aB i y
           exact jj
          repeat(first|exact R|refine dk.dz ?_ dl _)
       |false=>
        cases u:ju h k l.id false with
        |some j=>have f:=Mp T (show pk h (aq U.au h/2) k=false by rw[rh,H,u];rfl);rw[u]at hf;simp only[Fo]at hf;simp only[go_sem,AS,h0,Y,Z,N,Q,B,bM,x,U.ps,X,hp,wL,xJ,n_,kE,wq,hf,H,anE,vc,uO,pz,Int.reduceNeg,O,o1,o2,o3];refine⟨aK,aK,?_⟩;unfold IX;refine⟨by rw[f],?_,λy=>by rw[f]at y;cases y⟩;repeat(first|exact R|refine dk.dz ?_ dl _)
        |none=>
         obtain⟨j,ab,L,Km,QB⟩:=alo hk hm false u;have L:ju h k l.id true=some j:=L;have A5:=fW Km;have No:FC h j=ab.sign:=by simp[FC,Km]
         rw[u,L]at hf;simp only[Fo]at hf;cases af:(ab.sign==l.sign)with
         |false=>
          have ir:(ab.sign !=l.sign):=aIo
          have f:=Mp T (show pk h (aq U.au h/2) k=false by rw[rh,H,u];simp only[Hl,L,No,af];rfl);simp only[go_sem,AS,h0,Y,Z,N,Q,B,bM,x,U.ps,X,hp,wL,xJ,n_,kE,wq,hf,H,Rx,A5,ir,Yd,vc,uO,pz,Int.reduceNeg,Int.reduceSub,O,o1,o2,o3];refine⟨aK,aK,?_⟩;unfold IX;refine⟨by rw[f],?_,λy=>by rw[f]at y;cases y⟩;repeat(first|exact R|refine dk.dz ?_ dl _)
         |true=>
          have ir:(ab.sign !=l.sign)=false:=aIo
          have jj:pk h (aq U.au h/2) k:=by rw[rh,H,u];simp only[Hl,L,No,af];rfl
          have ur:=YX z D (show ju h k l.id l.over=none by rw[H];exact u);have M:=X9 z D;rw[H]at ur M;rw[show ju h k l.id (!false)=some j from L]at M;have Zk:tS h (k+1) l.id=[.int .i64 (k:Int),.int .i64 (j:Int)]:=by simp only[tS];rw[ur,show ju h (k+1) l.id true=some j from M];rfl
          rw[Zk]at EW;simp only[go_sem,AS,h0,Y,Z,N,Q,B,bM,x,U.ps,X,hp,w1,wL,xJ,n_,kE,wq,hf,H,Rx,A5,ir,Yd,vc,uO,pz,HR,Int.reduceNeg,Int.reduceSub,O,o1,o2,o3];refine⟨aK,aK,aK,?_⟩;refine⟨T,?_,?_,?_⟩
          .rw[EW]
          .intro i x;rcases vq.1 x with y|rfl
           .exact aB i y
           exact jj
          repeat(first|exact R|refine dk.dz ?_ dl _)
      rw[aE hm]at hf;have u:=aFo hk hm;have rS:=azh z D hm;have jj:pk h (aq U.au h/2) k:=by rw[rh,u,u];rfl
      have ur:=YX z D (u _);have M:=X9 z D;rw[u]at M;cases H:l.over
      case' true=>
       rw[H]at ur M;have Ux:tS h (k+1) l.id=[.int .i64 (-1),.int .i64 (k:Int)]:=by simp only[tS];rw[ur,show ju h (k+1) l.id false=none from M];rfl
      case' false=>
       rw[H]at ur M;have Ux:tS h (k+1) l.id=[.int .i64 (k:Int),.int .i64 (-1)]:=by simp only[tS];rw[ur,show ju h (k+1) l.id true=none from M];rfl
      all_goals
       rw[Ux]at rS;simp only[go_sem,AS,h0,Y,Z,N,Q,B,bM,x,U.ps,X,hp,w1,wL,xJ,n_,kE,wq,hf,H,Rx,vc,uO,pz,HR,Option.map_none,Int.reduceNeg,O,o1,o2,o3];refine⟨aK,aK,aK,?_⟩;refine⟨T,?_,?_,?_⟩
       .rw[rS]
       .intro i x;rcases vq.1 x with y|rfl
        .exact aB i y
        exact jj
       repeat(first|exact R|refine dk.dz ?_ dl _)
  have:k=I h:=J;subst this;have hr:=aa0 ad aB;have iX:I (qS h (I h))=I (gL h (I h)):=by simp[qS]
  have hb:(((I (gL h (I h)):Nat):Int)==((aq U.au h/2:Nat):Int))=(I (gL h (I h))==aq U.au h/2):=by
   cases y:(I (gL h (I h))==aq U.au h/2)with
   |true=>simp at y |-;omega
   |false=>simp at y |-;omega
  simp only[go_sem,AS,afC,h0,Y,N,Q,B,bM,ek,CU,Int.reduceNeg,iX,n_,kE,wq,hb,O,o1];exact⟨by rw[hr],R,λ_=>⟨_,B,bM⟩⟩
theorem IJ{p:U->Bool}{h:ae}{i:Nat}{l:U}(y:h[i]?=some l)(hp:p l):aq p h=1↔ ∀j m,h[j]?=some m->p m->j=i:=by
 obtain⟨x,e⟩:=bN.1 y;have af:h=h.take i++l::h.drop (i+1):=by rw[<-e,yK];simp
 have A:aq p h=aq p (h.take i)+(aq p (h.drop (i+1))+1):=by
  conv=>lhs;rw[af]
  simp[aq,uW,hp]
 constructor
 .grind
 intro u;have Z:aq p (h.take i)=0:=by
  refine R4.2 λm f v=>?_;obtain⟨j,H⟩:=gJ f;have n:j<i:=by have:=(bN.1 H).1;rw[ko]at this;omega
  rw[sB,aI n]at H;have:=u j m H v;omega
 have z:aq p (h.drop (i+1))=0:=by refine R4.2 λm f v=>?_;obtain⟨j,H⟩:=gJ f;rw[E3]at H;have:=u _ m H v;omega
 omega
def avB{p:U->Bool}{h:ae}(f:∀(i j:Nat) (l m:U),h[i]?=some l->h[j]?=some m->p l->p m->i=j):aq p h<=1:=by
 by_cases H:aq p h=0
 .omega
 have:=Nat.pos_of_ne_zero H;obtain⟨l,hl,hp⟩:=zF.1 this;obtain _:=gJ hl
 grind [IJ]
structure ub (F:Nat) (ls:ae) (l:U):Prop where
 g0:0<=l.gate
 g1:l.gate<=(F:Int)
 r0:1<=l.ao
 r1:l.ao<=(aZ ls l.gate.toNat:Int)
theorem C3{h:ae}{l m:U}(hl:ub F h l)(H:ub F h m):dN h l=dN h m↔l.gate=m.gate/\l.ao=m.ao:=by
 obtain⟨j,n,z,L⟩:=hl;obtain⟨x,M,u,v⟩:=H;unfold dN;constructor
 .intro f;have sl:=qR h l.gate.toNat;have y:=qR h m.gate.toNat;rcases LI l.gate.toNat m.gate.toNat with c|c|c
  .have:=Ai (h:=h) (show l.gate.toNat+1<=m.gate.toNat by omega);omega
  .rw[c]at f;omega
  have:=Ai (h:=h) (show m.gate.toNat+1<=l.gate.toNat by omega);omega
 grind
def ahH{h:ae}{l m:U}(hl:ub F h l)(H:ub F h m):Jr l m↔dN h l<dN h m:=by
 obtain⟨f,j,y,L⟩:=hl;obtain⟨v,M,n,u⟩:=H;unfold dN Jr;simp;have sl:=qR h l.gate.toNat;have x:=qR h m.gate.toNat;rcases LI l.gate.toNat m.gate.toNat with c|c|c
 .have:=Ai (h:=h) (show l.gate.toNat+1<=m.gate.toNat by omega);omega
 .rw[c];omega
 have:=Ai (h:=h) (show m.gate.toNat+1<=l.gate.toNat by omega);omega
def abO{h:ae}{l:U}(hl:ub F h l):dN h l<dX h (F+1):=by obtain⟨f,j,m,L⟩:=hl;unfold dN;have sl:=qR h l.gate.toNat;have:=Ai (h:=h) (show l.gate.toNat+1<=F+1 by omega);omega
def VE{h:ae}{i:Nat}{l:U}(H:h[i]?=some l)(hp:l.ay):zt h i↔1<=l.ao/\l.ao<=(aZ h l.gate.toNat:Int)/\ ∀j m,j<i->h[j]?=some m->m.ay->dN h m≠dN h l:=by
 simp[zt,H,hp,AL,H7,cF,fL,HI,fU]
 grind [wJ]
def Ji{h:ae}(f:xk F h):DC h↔(∀l∈h,l.ay->ub F h l)/\ ∀(i j:Nat) (l m:U),h[i]?=some l->h[j]?=some m->l.ay->m.ay->dN h l=dN h m->i=j:=by
 unfold DC;rw[mz];constructor
 .intro u;refine⟨λl hl hp=>?_,λi j l m H n B v e=>?_⟩
  .obtain⟨i,H⟩:=gJ hl;have:=(VE H hp).1 (u i (fU.2 (bN.1 H).1));exact⟨(f l hl hp).1,(f l hl hp).2,this.1,this.2.1⟩
  rcases LI i j with c|c|c
  .exact absurd e (((VE n v).1 (u j (fU.2 (bN.1 n).1))).2.2 i l c H B)
  .exact c
  exact absurd e.symm (((VE H B).1 (u i (fU.2 (bN.1 H).1))).2.2 j m c n v)
 rintro⟨x,y⟩ i H
 obtain⟨l,hl⟩:=aP (fU.1 H);cases hp:l.ay with
 |false=>simp[zt,hl,hp]
 |true=>
  have f:=x l (a8 hl) hp;refine(VE hl hp).2 ⟨f.r0,f.r1,λj m n z v e=>?_⟩
  grind
def Jw(g:Int)(h:0<=g)(l:U):m_ g l=jw g.toNat l:=by unfold m_ jw;rw[Hy h]
theorem nu{l:U}(hp:l.ay):eK f l=false↔(((0<=l.gate/\l.gate<=f)/\l.id=0)/\l.sign=0)/\l.over=false:=by grind [U.ay,eK]
theorem LG{h:ae}{l:U}(hp:l.ay):K5 f h l↔eK f l=false/\1<=l.ao/\l.ao<=(aq (m_ l.gate) h:Int)/\aq (ld l) h=1:=by grind [nu,K5]
theorem acb{l m:U}(hp:l.ay):ld l m↔m.ay=true/\m.gate=l.gate/\m.ao=l.ao:=by grind [U.ay,ld]
def aB3{h:ae}:(∀l∈h,l.ay->K5 F h l)↔(∀l∈h,l.ay->eK F l=false)/\DC h:=by
 constructor
 .intro D;have n:=λl hl hp=>((LG hp).1 (D l hl hp)).1;have y:=λl hl hp=>((nu hp).1 (n l hl hp)).1.1.1;refine⟨n,(Ji y).2 ⟨λl hl hp=>?_,λi j l m u x B v e=>?_⟩⟩
  .obtain⟨_,H,z,_⟩:=(LG hp).1 (D l hl hp);have:=y l hl hp;refine⟨this.1,this.2,H,?_⟩;have e:aq (m_ l.gate) h=aZ h l.gate.toNat:=by unfold aZ aq;congr 1;funext m;exact Jw _ this.1 m
   omega
  have f:ub F h l:=by
   obtain⟨_,H,z,_⟩:=(LG B).1 (D l (a8 u) B);have:=y l (a8 u) B;have e:aq (m_ l.gate) h=aZ h l.gate.toNat:=LT
   exact⟨this.1,this.2,H,J⟩
  have N:ub F h m:=by
   obtain⟨_,H,z,_⟩:=(LG v).1 (D m (a8 x) v);have:=y m (a8 x) v;have e:aq (m_ m.gate) h=aZ h m.gate.toNat:=LT
   exact⟨this.1,this.2,H,J⟩
  grind [C3,IJ,acb,LG]
 rintro⟨n,E⟩ l hl hp
 obtain⟨A,H⟩:=(Ji (λl hl hp=>((nu hp).1 (n l hl hp)).1.1.1)).1 E;have f:=A l hl hp;have e:aq (m_ l.gate) h=aZ h l.gate.toNat:=by unfold aZ aq;congr 1;funext m;exact Jw _ f.g0 m
 obtain⟨i,u⟩:=gJ hl;refine(LG hp).2 ⟨n l hl hp,f.r0,by rw[e];exact f.r1,(IJ u ((acb hp).2 ⟨hp,rfl,rfl⟩)).2 λj m x af=>?_⟩;obtain⟨v,M,L⟩:=(acb hp).1 af;exact H j i m l x u v hp ((C3 (A m (a8 x) v) f).2 ⟨M,L⟩)
def Af(id:Int)(o:Bool)(l:U):Bool:=l.au&&(l.id==id&&l.over==o)
def PX{h:ae}{m:U}(H:h[j]?=some m)(id:Int)(o:Bool):vb h id o j=Af id o m:=by simp[vb,Af,H]
theorem ud{id:Int}{o:Bool}{l:U}:Af id o l↔l.au=true/\l.id=id/\l.over=o:=by unfold Af;simp
def Jj(h:ae):Prop:=∀(i j:Nat) (l m:U),h[i]?=some l->h[j]?=some m->l.au->m.au->l.id=m.id->i≠j->l.over≠m.over/\l.sign=m.sign
def abg(h:ae):Prop:=∀l∈h,l.au->1<=l.id/\l.id<=((aq U.au h/2:Nat):Int)
def amZ{h:ae}{k:Nat}{l:U}(f:h[k]?=some l)(H:l.au):pk h y k↔(1<=l.id/\l.id<=(y:Int))/\ju h k l.id l.over=none/\ ∀j,ju h k l.id (!l.over)=some j->FC h j=l.sign:=by
 simp[pk,f,H,AL,H7,cF,fL,Option.isNone_iff_eq_none]
 grind
def IH{h:ae}:(∀k,k<I h->pk h (aq U.au h/2) k)↔abg h/\Jj h:=by
 constructor
 .intro ab;have Y:∀ {k:Nat}{l:U},h[k]?=some l->l.au->_:=λ{k l} D f=>(amZ D f).1 (ab k (bN.1 D).1);refine⟨λl hl f=>?_,?_⟩
  .obtain⟨i,H⟩:=gJ hl;exact(Y H f).1
  have A:∀(i j:Nat) (l m:U),h[i]?=some l->h[j]?=some m->l.au->m.au->l.id=m.id->i<j->l.over≠m.over/\l.sign=m.sign:=by
   intro i j l m H y E L z B;obtain⟨_,hn,af⟩:=Y y L;have X:l.over≠m.over:=by intro e;have:=Si hn B;rw[PX H,ud.2 ⟨E,z,e⟩]at this;cases this
   refine⟨X,?_⟩;have T:l.over= !m.over:=by revert X;cases l.over<;>cases m.over<;>simp
   cases v:ju h j m.id (!m.over)with
   |none=>have:=Si v B;rw[PX H,ud.2 ⟨E,z,T⟩]at this;cases this
   |some p=>
    obtain⟨N,O⟩:=NW v;obtain⟨x,n,F,M,u⟩:=FG O;have:p=i:=by
     rcases LI p i with c|c|c
     .grind [Si]
     .exact c
     have R:(List.range j).find? (vb h m.id (!m.over))=some p:=v;rw[List.find?_range_eq_some]at R;have:=R.2.2 i c;rw[PX H,ud.2 ⟨E,z,T⟩]at this;cases this
    subst this;rw[H]at n;cases n
    simpa [FC,H]using(af p v)
  intro i j l m H y E L z B;rcases SD B with c|c
  .exact A i j l m H y E L z c
  have:=A j i m l y H L E z.symm c;exact⟨λe=>this.1 e.symm,this.2.symm⟩
 rintro⟨Z,Q⟩ k D
 obtain⟨l,hl⟩:=aP D;cases f:l.au with
 |false=>simp[pk,hl,f]
 |true=>
  refine(amZ hl f).2 ⟨Z l (a8 hl) f,?_,λj y=>?_⟩
  .cases v:ju h k l.id l.over with
   |none=>rfl
   |some p=>obtain⟨N,O⟩:=NW v;obtain⟨x,n,F,M,u⟩:=FG O;exact absurd u (Q p k x l n hl F f M J).1
  obtain⟨N,O⟩:=NW y;obtain⟨x,n,F,M,u⟩:=FG O;have:=(Q j k x l n hl F f M J).2;simp[FC,n,this]
theorem azH(h:ae):∀ids:cT,ids.Nodup->(ids.map λid=>aq (qm id) h).sum=aq (λl=>l.au&&ids.contains l.id) h:=by
 intro ids
 induction ids with
 |nil=>intro _;simp[aq]
 |cons a ids f=>
  intro H;rw[qQ]at H;rw[fq,List.sum_cons,f H.2];refine(Z1 ?_ ?_ h).symm
  .intro l;simp[qm,cF,cW,Vt,fL,dh]
   grind
  intro l;simp[qm,cF,cW,Vt,fL]
  grind
theorem V4{h:ae}{l:U}(hl:l∈h)(f:l.au):l.id∈gL h (I h):=by obtain⟨i,H⟩:=gJ hl;refine(H4 (cP _)).2 ⟨i,l.over,(bN.1 H).1,?_⟩;rw[PX H];exact ud.2 ⟨f,rfl,rfl⟩
def Y2(h:ae):((gL h (I h)).map λid=>aq (qm id) h).sum=aq U.au h:=by grind [azH,Vp,BM,V4]
theorem Vz(id:Int)(h:ae):aq (qm id) h=aq (Af id true) h+aq (Af id false) h:=by
 refine Z1 ?_ ?_ h
 .intro l;rw[ud,ud];simp[qm,cF,cW];cases l.over<;>simp
 grind [ud]
def adf(id:Int)(o:Bool)(h:ae):aq (qm id) h=aq (Af id o) h+aq (Af id (!o)) h:=by
 rw[Vz];cases o with
 |true=>rfl
 |false=>simp;omega
theorem HB{h:ae}(x:Jj h)(id:Int)(o:Bool):aq (Af id o) h<=1:=by refine avB λi j l m H n hl f=>?_;obtain⟨L,y,z⟩:=ud.1 hl;obtain⟨M,u,v⟩:=ud.1 f;refine Decidable.byContradiction λA=>?_;exact(x i j l m H n L M J A).1 ii
theorem ag6{f:Int->Nat}:∀ids:cT,(∀x∈ids,f x<=2)->(ids.map f).sum<=2*I ids:=by
 intro ids
 induction ids with
 |nil=>intro _;simp
 |cons a ids h=>grind
def aoB{f:Int->Nat}:∀ids:cT,(∀x∈ids,f x<=2)->(ids.map f).sum=2*I ids->∀x∈ids,f x=2:=by
 intro ids
 induction ids with
 |nil=>intro _ _ x H;cases H
 |cons a ids j=>
  intro h af
  grind [ag6]
def azN{f:Int->Nat}:∀ids:cT,(∀x∈ids,f x=2)->(ids.map f).sum=2*I ids:=by
 intro ids
 induction ids with
 |nil=>intro _;simp
 |cons a ids h=>grind
theorem ad8{l m:U}(h:l.au):k_ l m↔m.au=true/\m.id=l.id/\m.sign=l.sign/\m.over= !l.over:=by grind [U.au,k_]
theorem Lb{l:U}(h:l.au):eK f l=false↔(l.gate=0/\l.ao=0)/\(l.sign !=1&&l.sign != -1)=false:=by grind [U.au,eK]
def ai5{h:ae}{l:U}(H:l.au):yP h l↔eK f l=false/\(1<=l.id/\l.id<=((aq U.au h/2:Nat):Int))/\aq (k_ l) h=1/\aq (qm l.id) h=2:=by grind [Lb,yP,gH]
def aBr{h:ae}:(∀l∈h,l.au->yP h l)↔(∀l∈h,l.au->eK f l=false)/\oH h:=by
 have Z:=Y2 h;constructor
 .intro ab;have F:=λl hl H=>(ai5 (f:=f) H).1 (ab l hl H);have hp:Jj h:=by
   intro i j l m n z E Cf R gb;obtain⟨_,_,h3,h4⟩:=F l (a8 n) E;have e1:=adf l.id l.over h;have g1:0<aq (Af l.id l.over) h:=zF.2 ⟨l,a8 n,ud.2 ⟨E,rfl,rfl⟩⟩;obtain⟨x,v,O⟩:=zF.1 (by show 0<aq (k_ l) h;omega);obtain⟨A,X,B,x4⟩:=(ad8 E).1 O;have D:0<aq (Af l.id (!l.over)) h:=zF.2 ⟨x,v,ud.2 ⟨A,X,x4⟩⟩;have Y:l.over≠m.over:=by intro e;have:=(IJ n (ud.2 ⟨E,rfl,rfl⟩)).1 J j m z (ud.2 ⟨Cf,R.symm,e.symm⟩);exact gb this.symm
   refine⟨Y,?_⟩;obtain⟨p,N⟩:=gJ v;have:=(IJ z (ud.2 ⟨Cf,R.symm,by revert Y;cases l.over<;>cases m.over<;>simp⟩)).1 J p x N (ud.2 ⟨A,X,x4⟩);subst this;rw[N]at z;cases z
   exact B.symm
  have L:∀id∈gL h (I h),aq (qm id) h=2:=by intro id u;obtain⟨j,o,h1,M⟩:=(H4 (cP _)).1 u;obtain⟨m,hm,H,n,_⟩:=FG M;rw[<-n];exact(F m (a8 hm) H).2.2.2
  rw[azN _ L]at Z;refine⟨λl hl H=>(F l hl H).1,?_⟩;rw[aa0 J ((IH).2 ⟨λl hl H=>(F l hl H).2.1,hp⟩)];simp only[cW];omega
 rintro⟨hb,Q⟩ l hl H
 unfold oH at Q;simp only[cF,cW,mz,fU]at Q;obtain⟨⟨R,v⟩,y⟩:=Q;obtain⟨u,hp⟩:=IH.1 v;have T:∀id∈gL h (I h),aq (qm id) h<=2:=λid _=>by rw[Vz id];have:=HB hp id true;have:=HB hp id false;omega
 have M:=aoB _ T (by rw[Z,y];omega) l.id (V4 hl H);have e1:=adf l.id l.over h;have b1:=HB hp l.id l.over;have b2:=HB hp l.id (!l.over);refine(ai5 H).2 ⟨hb l hl H,u l hl H,?_,M⟩;obtain⟨i,n⟩:=gJ hl;obtain⟨x,v,O⟩:=zF.1 aHK;obtain⟨p,N⟩:=gJ v;obtain⟨A,X,B⟩:=ud.1 O;have iY:p≠i:=by
  rintro rfl
  rw[n]at N;cases N;revert B;cases l.over<;>simp
 refine(IJ N ((ad8 H).2 ⟨A,X,(hp p i x l N n A H X iY).2,B⟩)).2 λj m z hm=>?_
 grind [ad8,IJ,ud]
theorem Dy{l:U}(h:eK f l=false):l.ay\/l.au:=by grind [U.ay,U.au,eK]
theorem oV{l:U}(hp:l.ay):l.au=false:=by grind [U.ay,U.au]
theorem ao0{h:ae}{l:U}(hp:l.ay):DG f h l=K5 f h l:=by unfold U.ay at hp;simp[DG,hp]
theorem ahT{h:ae}{l:U}(hp:l.au):DG f h l=yP h l:=by grind [U.au,DG]
def QQ{h:ae}:zU F h↔h.any (eK F)=false/\DC h/\oH h:=by
 unfold zU;rw[mz,HI];have m:=aB3 (F:=F) (h:=h);have v:=aBr (f:=(F:Int)) (h:=h);constructor
 .intro n;obtain⟨j,u⟩:=m.1 λl hl hp=>by rw[<-ao0 hp];exact n l hl
  obtain⟨x,E⟩:=v.1 λl hl H=>by rw[<-ahT H];exact n l hl
  refine⟨λl hl=>?_,u,E⟩;rcases(λ{l:U} (hl:l∈h)=>ajS (mz.2 n) (gJ hl).choose_spec) hl with hp|H
  .rw[j l hl hp];simp
  rw[x l hl H];simp
 grind [Dy,ao0,ahT]
def axJ{o:aD}(af:o.Pairwise (· < ·))(A:∀x∈o,x<I o):∀(k:Nat) (h:k<I o),o[k]=k:=by
 rw[KD]at af;have lo:∀(k:Nat) (h:k<I o),k<=o[k]:=by
  intro k
  induction k with
  |zero=>intro _;omega
  |succ k f=>grind
 have H:∀(d k:Nat) (h:k<I o),k+d+1=I o->o[k]<=k:=by
  intro d
  induction d with
  |zero=>grind
  |succ d f=>
   intro k h e;have:=f (k+1) J J
   grind
 intro k h;have:=lo k h;have:=H (I o-k-1) k h J;omega
def aBs{f:Nat->Nat}{p:Nat->Bool}{i:Nat}:∀ {o:aD},o.Pairwise (λa b=>f a<f b)->(∀x∈o,p x=decide (f x<f i))->(∀x∈o,f x≠f i)->
  (o.take (I (o.takeWhile p))++i::o.drop (I (o.takeWhile p))).Pairwise (λa b=>f a<f b):=by
 intro o
 induction o with
 |nil=>intro _ _ _;simp
 |cons a o m=>
  intro af hp H;rw[iR]at af;have j:=hp a Lo;have n:=H a Lo;by_cases A:f a<f i
  .rw[List.takeWhile_cons,aI (by rw[j];simpa using A)];simp only[fF,Oj,List.drop_succ_cons,B2];rw[iR]
   grind
  rw[List.takeWhile_cons,aE (by rw[j];simpa using A)];simp only[fB,PQ,Lx,gM];rw[iR,iR];refine⟨λb h=>?_,af⟩;rcases dh.1 h with rfl|h
  .omega
  have:=af.1 b h;omega
def Jl{h:ae}{i:Nat}{l:U}(H:h[i]?=some l)(hp:l.ay):Df h i=dN h l:=by simp[Df,H,hp]
structure Ec (F:Nat) (ls:ae):Prop where
 fg:∀l∈ls,l.ay->ub F ls l
 inj:∀(i j:Nat) (l m:U),ls[i]?=some l->ls[j]?=some m->l.ay->m.ay->dN ls l=dN ls m->i=j
def apN{h:ae}(n:Ec F h):∀k,k<=I h->(uc h k).Pairwise (λa b=>Df h a<Df h b):=by
 intro k
 induction k with
 |zero=>intro _;simp[uc]
 |succ k j=>
  intro v;have j:=j J;rw[Mu];obtain⟨l,hl⟩:=aP (show k<I h by omega);unfold DA;rw[hl];simp only;cases hp:l.ay with
  |false=>simpa using j
  |true=>
   have H:=λ{x:Nat} (f:x∈uc h k)=>(aj7 J).1 f;refine aBs j (λx f=>?_) (λx f e=>?_)
   .obtain⟨u,m,H,E⟩:=H f;rw[Jl H E,Jl hl hp];unfold I_;rw[H,hl];have:=ahH (n.fg m (a8 H) E) (n.fg l (a8 hl) hp)
    grind
   obtain⟨u,m,H,E⟩:=H f;rw[Jl H E,Jl hl hp]at e;have:=n.inj x k m l H hl E hp e;omega
def ayz{h:ae}:∀k,k<=I h->I (uc h k)=aq U.ay (h.take k):=by
 intro k
 induction k with
 |zero=>intro _;simp[uc,aq]
 |succ k f=>grind [Mu,DA,lZ,awE,uY]
theorem Ea{h:ae}:I (aA h)=aq U.ay h:=by have:=ayz (I h) (cP _);rwa[lN]at this
def CF{h:ae}(H:xk F h):dX h (F+1)=I (aA h):=by grind [Ea,alf,BM]
def Ec.xk{h:ae}(H:Ec F h):xk F h:=λl hl hp=>⟨(H.fg l hl hp).g0,(H.fg l hl hp).g1⟩
theorem v_{h:ae}(m:Ec F h){k i:Nat}(H:(aA h)[k]?=some i):∃l,h[i]?=some l/\l.ay/\dN h l=k:=by
 have af:((aA h).map (Df h)).Pairwise (· < ·):=by rw[BG];exact apN m (I h) (cP _)
 have A:∀x∈(aA h).map (Df h),x<I ((aA h).map (Df h)):=by intro x f;obtain⟨j,n,rfl⟩:=c_.1 f;obtain⟨l,hl,hp⟩:=sX.1 n;rw[Jl hl hp,ct,<- (CF m.xk)];exact abO (m.fg l (a8 hl) hp)
 obtain⟨D,u⟩:=bN.1 H;have:=axJ af A k ii;rw[FZ,u]at this;obtain⟨l,hl,hp⟩:=sX.1 (a8 H);exact⟨l,hl,hp,by rw[<-Jl hl hp];exact this⟩
theorem Lt{h:ae}(f:Ec F h){i:Nat}{l:U}(hl:h[i]?=some l)(hp:l.ay):(aA h)[dN h l]?=some i:=by have A:=abO (f.fg l (a8 hl) hp);rw[CF f.xk]at A;obtain⟨j,H⟩:=aP A;obtain⟨m,n,E,u⟩:=v_ f H;rw[H,f.inj j i m l n hl E hp u]
def L4{h:ae}(H:Ec F h){i:Nat}{l:U}(hl:h[i]?=some l)(hp:l.ay):(aA h).idxOf i=dN h l:=by grind [v_,aqy,Lt]
def aGW{h:ae}(n:Ec F h):u5 h (dX h (F+1)) (I h)=aA h:=by
 apply yR
 .rw[aim,CF n.xk]
 intro k y u;simp[u5,FZ,JF];obtain⟨l,hl,hp,v⟩:=v_ n (vA u);generalize(aA h)[k]=i at hl;unfold PA;have hf:(List.range (I h)).find? (wJ h k)=some i:=by
  refine CC ((bN.1 hl).1) (λj x=>?_) ?_
  .cases H:wJ h k j with
   |false=>rfl
   |true=>
    unfold wJ at H;split at H
    .rename_i m f;simp at H;have:=n.inj j i m l f hl H.1 hp J;omega
    cases H
  rw[aoy hl hp];simp[v]
 rw[hf];rfl
def Tx{h:ae}(A:oH h){i:Nat}{l:U}(hl:h[i]?=some l)(Q:l.au):ju h (I h) l.id (!l.over)=some (iV h i)/\iV h i<I h:=by
 unfold oH at A;simp only[cF,cW,mz,fU]at A;obtain⟨⟨he,B⟩,u⟩:=A;obtain⟨ab,hp⟩:=IH.1 B;have D:∀id∈gL h (I h),aq (qm id) h<=2:=λid _=>by grind [Vz,HB]
 have f:=aoB _ D (by rw[Y2 h,u];omega) l.id (V4 (a8 hl) Q);have e1:=adf l.id l.over h;have b1:=HB hp l.id l.over;have b2:=HB hp l.id (!l.over);obtain⟨x,B,E⟩:=zF.1 aHK;obtain⟨p,n⟩:=gJ B;obtain⟨N,F,X⟩:=ud.1 E;have H:=(bN.1 n).1;have R:p≠i:=by
  rintro rfl
  rw[hl]at n;cases n;revert X;cases l.over<;>simp
 have uniq:∀(j:Nat) (m:U),h[j]?=some m->m.au->m.id=l.id->j≠i->j=p:=by intro j m v M L y;refine Decidable.byContradiction λaN=>?_;have Y:=(hp j i m l v hl M Q L y).1;have O:=(hp j p m x v n M N (by rw[L,F]) aN).1;rw[X]at O;revert Y O;cases m.over<;>cases l.over<;>simp
 have Dm:(List.range (I h)).find? (Cr h i)=some p:=by
  refine CC H (λj v=>?_) ?_
  .cases z:Cr h i j with
   |false=>rfl
   |true=>
    unfold Cr at z;simp only[cF,bne_iff_ne,ne_eq]at z;obtain⟨T,f⟩:=z;split at f
    .rename_i m hm;simp only[cF,cW,hl,vB,mw]at f;have:=uniq j m hm f.1 f.2 T;omega
    cases f
  unfold Cr;rw[n];simp[R,N,hl,F]
 have Z:iV h i=p:=by unfold iV;rw[Dm];rfl
 rw[Z];refine⟨?_,H⟩;unfold ju;refine CC H (λj v=>?_) ?_
 .grind [vb]
 rw[PX n];exact E
abbrev pX(F:Nat)(ls:ae):PV:=PJ F ls (.sl (dx (l8 ls))) (.sl (aY (aA ls))) (.sl (aY (lT ls (I ls)))) (.mp true (qS ls (I ls))) (.sl (aY (gY ls F)))
structure fY (F:Nat) (ls:ae):Prop where
 hl:I ls<=1000000
 ax:Ec F ls
 cr:oH ls
 kinds:∀l∈ls,l.ay\/l.au
def sq{a:Nat}(h:a<=9223372036854775807):IntKind.i64.wrap ((a:Int)-1)=(a:Int)-1:=by
 cases a with
 |zero=>decide
 |succ a=>rw[EU J h];omega
def agl{a:Nat}(H:1<=n)(h:a+n<=9223372036854775807):IntKind.i64.wrap (((a:Int)-1)+(n:Int))=((a+n-1:Nat):Int):=by have e:((a:Int)-1)+(n:Int)=((a+n-1:Nat):Int):=J;rw[e];exact wrap_small J
def aaq(F:Nat)(h:ae)(i:Nat)(hl:I h<=1000000)(H:i<I h):aC S 190 [.one (.p (pX F h)),ai i] (fH (dS (I h) i true)):=by refine ba arl ?_;simp only[go_sem,ahx,qj (a:=i) J,dS]
def adH(F:Nat)(h:ae)(i:Nat)(hl:I h<=1000000)(v:i<I h):aC S 189 [.one (.p (pX F h)),ai i] (fH (dS (I h) i false)):=by refine ba aGA ?_;have m:=agl (a:=i) (n:=I h) J J;have f:=tu (i+I h-1) (I h);have u:=dB (i+I h-1) (show 0<I h by omega);have j:=qj (a:=(i+I h-1)%I h) J;have E:=cg (n:=2*((i+I h-1)%I h)) J;have H:¬((I h:Int)=0):=J;simp only[go_sem,aoi,sq (a:=i) J,m,f,j,E,H,dS]
def US{h:ae}{l:U}(H:h[v]?=some l)(hp:l.ay):(l8 h)[v]?=some (dn h v):=by have:=(bN.1 H).1;simp[l8,wZ this,ep,H,hp]
def aAj{h:ae}{l:U}(H:h[v]?=some l)(hp:l.ay):(lT h (I h))[v]?=some (dN h l):=by have:=(bN.1 H).1;simp[lT,this,Jl H hp]
def fY.U4{h:ae}(ok:fY F h){l:U}(j:h[v]?=some l)(f:(l.kind==2)=false):l.ay:=by
 rcases ok.kinds l (a8 j)with hp|H
 .exact hp
 unfold U.au at H;rw[f]at H;cases H
def aod{h:ae}(ok:fY F h)(d:Nat)(hd:d<2*I h+2*I (aA h)):aC S 144 [.one (.p (pX F h)),ai d] (fH (jd h (aA h) d)):=by
 have hl:=ok.hl;have jD:I (aA h)<=1000000:=ob (qp h (I h)) hl;have kG:∀x∈aA h,x<I h/\ ∃l,h[x]?=some l/\l.ay:=λx hx=>by obtain⟨l,h1,H⟩:=sX.1 hx;exact⟨(bN.1 h1).1,l,h1,H⟩
 have N:IntKind.i64.wrap (2*(I h:Int))=((2*I h:Nat):Int):=qj J;unfold jd;by_cases ag:2*I h<=d
 .rw[aI ag];refine ba ak9 ?_;have B:((2*I h:Nat):Int)<=(d:Int):=J;have m2:=S6 ag J;have M:=wrap_small (n:=(d-2*I h)/2) J;have hm:=dB ((d-2*I h)/2+1) (show 0<I (aA h) by omega);have qV:¬((I (aA h):Int)=0):=J;obtain⟨ad,hu⟩:=aP (h:=aA h) (k:=(d-2*I h)/2) J;have GC:=i_ hu;by_cases H:d%2=0
  .rw[aI H];have O:=cg (n:=(d-2*I h)/2) J;have j8:(((d%2:Nat):Int)==0):=by simp[H]
   have L:=tu ((d-2*I h)/2+1) (I (aA h));obtain⟨v,D⟩:=aP hm;have tM:(aA h).getD (((d-2*I h)/2+1)%I (aA h)) 0=v:=by rw[dM,D];rfl
   rw[tM];obtain⟨m,l,f,qC⟩:=kG v (a8 D);have vk:=i_ D;have j:=rB (US f qC);have A:=aaq F h v hl m;have pb:=adH F h v hl m;cases E:dn h v;all_goals
    rw[E]at j;simp only[go_sem,Sz,N,m2,M,O,L,B,j8,GC,vk,j,qV,tf,n_,kE,aex,ac9,ie A,ie pb];exact⟨aK,aK⟩
  rw[aE H];have j8:(((d%2:Nat):Int)==0)=false:=fd
  have tM:(aA h).getD ((d-2*I h)/2) 0=ad:=by rw[dM,hu];rfl
  rw[tM];obtain⟨m,l,f,qC⟩:=kG ad (a8 hu);have j:=rB (US f qC);have A:=aaq F h ad hl m;have pb:=adH F h ad hl m;cases E:dn h ad;all_goals
   rw[E]at j;simp only[go_sem,Sz,N,m2,M,B,j8,GC,j,tf,n_,kE,aex,ac9,ie A,ie pb];exact aK
 rw[aE ag];have B:¬(((2*I h:Nat):Int)<=(d:Int)):=J;have M:=wrap_small (n:=d/2) J;have jq:¬((I h:Int)=0):=J;have qV:=dB (d/2+1) (show 0<I h by omega);have O:=cg (n:=d/2) J;have L:=tu (d/2+1) (I h);have body:∀v:Nat,v<I h->∀u:Bool,v=(if u then(d/2+1)%I h else d/2)->(((d%2:Nat):Int)==0)=u->aC S 144 [.one (.p (pX F h)),ai d] (fH ((match h[v]? with
   |none=>0
   |some l=>if l.kind==2 then dS (I h) (iV h v) (u==(l.over==(l.sign==1)))
    else if dn h v==u then 2*I h+2*(aA h).idxOf v else 2*I h+2*(((aA h).idxOf v+I (aA h)-1)%I (aA h))+1:Nat):Int)):=by
  intro v D u Q Qs;obtain⟨l,f⟩:=aP D;have T:=fW f;rw[f];simp only;refine ba ak9 ?_;cases R:(l.kind==2)with
  |true=>
   have hc:l.au:=R;have X:(l.kind==1)=false:=by simp only[cW]at R;rw[R];rfl
   obtain⟨z,QJ⟩:=Tx ok.cr f hc;have hf:=ahW h (I h) l.id;rw[aI (V4 (a8 f) hc)]at hf;have A:=aaq F h (iV h v) hl QJ;have pb:=adH F h (iV h v) hl QJ;cases Z:l.over
   case' true=>rw[Z]at z;have z:ju h (I h) l.id false=some (iV h v):=z
   case' false=>rw[Z]at z;have z:ju h (I h) l.id true=some (iV h v):=z
   all_goals
    simp only[tS,z]at hf;simp only[Fo]at hf;cases af:(l.sign==1);all_goals
     cases u
     case' true=>have Q:v=(d/2+1)%I h:=Q
     case' false=>have Q:v=d/2:=Q
     all_goals
      rw[Q]at T hf A pb |-;simp only[go_sem,Sz,N,M,O,L,B,Qs,T,U.ps,jq,X,Z,af,tf,n_,kE,vc,uO,pz,hf,aex,ac9,ie A,ie pb];exact⟨aK,aK⟩
  |false=>
   have hp:=ok.U4 f R;have X:(l.kind==1):=hp;have j:=rB (US f hp);have bQ:=i_ (aAj f hp);have Kl:=L4 ok.ax f hp;have Y:=abO (ok.ax.fg l (a8 f) hp);rw[CF ok.ax.xk]at Y;rw[Kl];have ZC:¬((I (aA h):Int)=0):=J;have iX:=dB (dN h l+I (aA h)-1) (show 0<I (aA h) by omega);have n1:=qj (a:=dN h l) J;have y:=uh (a:=2*I h) (b:=2*dN h l) J;have n3:=sq (a:=dN h l) J;have n4:=agl (a:=dN h l) (n:=I (aA h)) J J;have n5:=tu (dN h l+I (aA h)-1) (I (aA h));have n6:=qj (a:=(dN h l+I (aA h)-1)%I (aA h)) J;have n7:=uh (a:=2*I h) (b:=2*((dN h l+I (aA h)-1)%I (aA h))) J
   have n8:=cg (n:=2*I h+2*((dN h l+I (aA h)-1)%I (aA h))) J;cases u
   case' true=>have Q:v=(d/2+1)%I h:=Q
   case' false=>have Q:v=d/2:=Q
   all_goals
    cases ab:dn h v;all_goals
     rw[ab]at j;rw[Q]at T j bQ;simp only[go_sem,Sz,N,M,O,L,B,Qs,T,U.ps,jq,X,tf,n_,kE,j,bQ,n1,y,n3,n4,n5,n6,n7,n8,ZC];exact aK
 have m:(if(d%2==0)=true then(d/2+1)%I h else d/2)<I h:=by
  split
  .exact qV
  omega
 have:=body _ m (d%2==0) rfl (by cases E:(d%2==0)<;>simp at E |- <;>omega);exact this
abbrev aT(ls:ae):Nat->Nat:=jd ls (aA ls)
def aAd{h:ae}(ok:fY F h):
  ∀(f x:Nat) (dO:dK) (m:bP) (blk:aH),m 0=.one (.p (pX F h))->m 4=.one (.hsl 10688128064 1 1 0 (I dO))->blk 10688128064=(1,some (.arr 4 1 (dx dO)))->
   m 7=ai x->x<I dO->I dO=2*I h+2*I (aA h)->BX dO<f->
   (∀A n,A 0=m 0->A 4=m 4->A 5=m 5->A 24=m 24->A 25=m 25->n 10688128064=(1,some (.arr 4 1 (dx (hU (aT h) f x dO).2)))->Q .normal A n)->
   W S .all (.loop SH) (oh 2 Q) m blk:=by
 have jD:=ob (qp h (I h)) ok.hl;have kG:∀x∈aA h,x<I h:=λx ab=>Xk ab;intro f
 induction f with
 |zero=>intro x dO m blk _ _ _ _ _ _ ab;omega
 |succ f ih=>
  intro x dO m blk D j B E y hsl hu H;obtain⟨b,u⟩:=aP y;have M:=rB u;have Y:dO.getD x true=b:=by rw[dM,u];rfl
  unfold hU at H;rw[Y]at H;refine oG ?_;cases b with
  |true=>simp only[go_sem,SH,j,B,E,y,M];refine H _ _ ?_ ?_ ?_ ?_ ?_ B;all_goals simp only[go_sem,j]
  |false=>
   have KA:=Sm u;have X:=aod ok x J;have T:=Wd (d:=x) kG (λv l L R=>sX.2 ⟨l,L,ok.U4 L R⟩) J;simp only[go_sem,SH,D,j,B,E,y,M,LS dO x true,YP,ie X];refine ih (jd h (aA h) x) (dO.set x true) _ _ ?_ ?_ ?_ ?_ (by simpa [hsl]using T) (by simpa using hsl) J ?_
   .simp only[go_sem,D]
   .simp only[go_sem,j,oF]
   .simp only[go_sem]
   .simp only[go_sem]
   intro A n O q4 Z Ae z N;refine H A n ?_ ?_ ?_ ?_ ?_ N
   .rw[O];simp only[go_sem]
   .rw[q4];simp only[go_sem]
   .rw[Z];simp only[go_sem]
   .rw[Ae];simp only[go_sem]
   rw[z];simp only[go_sem]
def aCy{h:ae}(ok:fY F h):aC S 167 [.one (.p (pX F h))] (cK (fV h==aq U.ay h+aq U.au h/2+2)):=by
 have hl:=ok.hl;have jD:I (aA h)<=I h:=qp h (I h);have m2:=qj (a:=I (aA h)) J;have m3:=uh (a:=2*I h) (b:=2*I (aA h)) J;have X:2*I h+2*I (aA h)<=140737488355328:=J;have Kw:List.replicate (2*I h+2*I (aA h)) [PV.bool false]=dx (List.replicate (2*I h+2*I (aA h)) false):=aG;have iX:I (qS h (I h))=aq U.au h/2:=by have:=ok.cr;unfold oH at this;simp only[cF,cW]at this;simp[qS,this.2]
 have nN:aq U.au h<=I h:=ny _ _;refine ba awD ?_;simp only[go_sem,agq,qj (a:=I h) J,m2,m3,X,Kw];refine⟨aK,?_⟩;generalize hN:2*I h+2*I (aA h)=N at X;refine cZ (λk m blk=>m 0=.one (.p (pX F h))/\m 4=.one (.hsl 10688128064 1 1 0 N)/\blk 10688128064=(1,some (.arr 4 1 (dx (fJ (aT h) N k).2)))/\
   m 5=ai (fJ (aT h) N k).1.length/\m 24=ai N/\m 25=ai k) 0 N (bj _) ?_ ?_
 .simp only[go_sem];exact⟨rfl,rfl,rfl⟩
 rintro k m blk hk ⟨u,x,j,f,z,y⟩
 have H:=JU (aT h) N k;have E:=NC (aT h) N k;by_cases A:k<N
 .have L:((k:Int)<(N:Int)):=J;have B:=cg (n:=k) J;have af:=Bn (aT h) N k;generalize cN:fJ (aT h) N k=st at H af j f E;obtain⟨out,dO⟩:=st;simp only at H j f E;obtain⟨b,v⟩:=aP (h:=dO) (k:=k) J;have O:=rB v;unfold wQ at af;have Dq:dO.getD k true=b:=by rw[dM,v];rfl
  simp only[Dq]at af;cases b with
  |true=>simp only[go_sem,Uc,Z8,u,x,j,f,z,y,A,L,O,B,af]
  |false=>
   have af:fJ (aT h) N (k+1)=(out++[(hU (aT h) (N+1) k dO).1],(hU (aT h) (N+1) k dO).2):=by rw[af,H];rfl
   have QS:=Mx dO;simp only[go_sem,Uc,x,j,f,z,y,A,L,O,cg (n:=I out) J];refine aAd ok (N+1) k dO _ _ ?_ ?_ ?_ ?_ J J J ?_
   .simp only[go_sem,u]
   .simp only[go_sem,x,H]
   .simp only[go_sem,j]
   .simp only[go_sem]
   intro aF ak D R M T Q Z;simp only[go_sem,u,x,f,z,y]at D R M T Q;simp only[go_sem,Z8,D,R,M,T,Q,Z,B,af,A];simp
 have:k=N:=J;subst this;have he:fV h=(fJ (aT h) k k).1.length:=by unfold fV eX aT;rw[hN]
 rw[<-he]at f;have Y:IntKind.i64.wrap (((I (aA h)+aq U.au h/2:Nat):Int)+2)=((I (aA h)+aq U.au h/2+2:Nat):Int):=uh (b:=2) J;have v:(((fV h:Nat):Int)==((I (aA h)+aq U.au h/2+2:Nat):Int))=(fV h==aq U.ay h+aq U.au h/2+2):=by
  rw[Ea];cases ab:(fV h==aq U.ay h+aq U.au h/2+2)with
  |true=>simp at ab |-;omega
  |false=>simp at ab |-;omega
 simp only[go_sem,Uc,akO,u,f,z,y,ek,CU,iX,uh (a:=I (aA h)) (b:=aq U.au h/2) J,Y,v];exact aK
abbrev Yh(id:Nat):Prop:=id=5056320128\/(lf id=125\/lf id=165\/lf id=166)
def aD4(F:Nat)(h:ae)(g:Nat)(blk:aH):Prop:= ∃g1 D B f j,
 blk 5056320128=(g,some (.var (yV F h (af 10560128448 D (I h)) (af 10561344128 j (I (aA h))) (af 10560192448 B (I h)) (.ow 10624256064 f) (af 10560064448 g1 (F+1)))))/\
 blk 10560064448=(g1,some (.arr 3 1 (aY (gY h F))))/\blk 10560128448=(D,some (.arr 4 1 (dx (l8 h))))/\blk 10560192448=(B,some (.arr 3 1 (aY (lT h (I h)))))/\
 blk 10561344128=(j,some (.arr 3 1 (aY (aA h))))/\blk 10624256064=(f,some (.map true (qS h (I h))))
def Vl(F:Nat)(h:ae):Bool:=decide (h=[])||oI F h
def aqF(F:Nat)(h:ae)(g:Nat)(m:aH)(v:V)(A:aH):Prop:=v=iB (Vl F h)/\dk Yh m A/\(h≠[]->oI F h->aD4 F h g A)/\(h=[]->A 5056320128=m 5056320128)
def adX:S.sites 125=[125,165,166]:=ah
def ale:S.sites 165=[165]:=ah
def ajf:S.sites 166=[166]:=ah
def dk.WC{bJ f:Nat->Prop}{a b:aH}(h:dk bJ a b)(H:∀id,bJ id->f id):dk f a b:=λid m=>h id λj=>m (H id j)
abbrev Hn(g:Nat):List eC:=[[.hfn 163 [.aW 5056320128 g 0] []],[.hfn 164 [.aW 5056320128 g 0] []],[.hfn 165 [.aW 5056320128 g 0] []],[.hfn 166 [.aW 5056320128 g 0] []],[.hfn 167 [.aW 5056320128 g 0] []]]
section
variable {al:cD} {Q:ib} {m:bP} {blk:aH} {g g0:Nat}
def ab4(k:Nat){f:Nat}{D:PV}{r:aD}{b:Bool}(v:k<5)(hf:(Hn g)[k]?=some [.hfn f [.aW 5056320128 g 0] []])(N:S.shared f=false)(O:al.ok 8000192640)
  (h:m 22=.one (af 8000192640 g0 5)) (T:m 23=ai 5) (x:m 24=ai k) (B:blk 8000192640=(g0,some (.nH 29 1 (Hn g))))
  (j:s9 blk (.one (.aW 5056320128 g 0))=some (.one (.p D),r)) (H:al.iG r) (hp:aC S f [.one (.p D)] (cK b))
  (z:b=false->∀A,A 2=iB false->Q .ret A blk)
  (Z:b->∀A,A 22=.one (af 8000192640 g0 5)->A 23=ai 5->A 24=ai ((k+1:Nat):Int)->W S al (.loop Eu) Q A blk):W S al (.loop Eu) Q m blk:=by
 refine oG ?_;have u:((k:Int)<5):=J;cases b with
 |false=>simp only[go_sem,Eu,h,T,x,B,u,v,hf,N,O,↓j,am1 hp,H];exact z rfl _ d9
 |true=>
  simp only[go_sem,Eu,h,T,x,B,u,v,hf,N,O,↓j,am1 hp,H,cg (n:=k) J];refine Z rfl _ ?_ ?_ ?_
  .simp only[go_sem,h]
  .simp only[go_sem,T]
  simp only[go_sem]
def apg(k:Nat){f:Nat}{P:V->aH->Prop}{b:Bool}(D:k<5)(hf:(Hn g)[k]?=some [.hfn f [.aW 5056320128 g 0] []])(N:S.shared f)(O:al.ok 8000192640)
  (x:m 22=.one (af 8000192640 g0 5)) (T:m 23=ai 5) (u:m 24=ai k) (B:blk 8000192640=(g0,some (.nH 29 1 (Hn g))))
  (H:al.holds (iA (S.ctx al) f [.one (.aW 5056320128 g 0)] blk)) (h:∃v A,ja S f [.one (.aW 5056320128 g 0)] (iA (S.ctx al) f [.one (.aW 5056320128 g 0)] blk) blk v A/\P v A)
  (F:∀v A,P v A->v=iB b)
  (z:b=false->∀v j A,P v A->j 2=iB false->Q .ret j A)
  (Z:b->∀v j A,P v A->j 22=.one (af 8000192640 g0 5)->j 23=ai 5->j 24=ai ((k+1:Nat):Int)->W S al (.loop Eu) Q j A):W S al (.loop Eu) Q m blk:=by
 refine oG ?_;have y:((k:Int)<5):=J;simp only[go_sem,Eu,x,T,u,B,y,D,hf,N,O];refine rG H h λv A hp=>?_;have E:=F v A hp;subst E;cases b with
 |false=>simp only[go_sem];exact z rfl _ _ _ hp d9
 |true=>
  simp only[go_sem,u,cg (n:=k) J];refine Z rfl _ _ _ hp ?_ ?_ ?_
  .simp only[go_sem,x]
  .simp only[go_sem,T]
  simp only[go_sem]
end
def auj{al:cD}(u:al.ok 5056320128)(O:∀id,(lf id=125\/lf id=165\/lf id=166)->al.ok id)(f1:al.fs.contains 165)(f2:al.fs.contains 166)
  {blk:aH}{g F:Nat}{h:ae} (hl:I h<=1000000) (hF:F<=1000000)
  (j:blk 5056320128=(g,some (.var (yV F h (.p .nils) (.p .nils) (.p .nils) (.p .uw) (.p .nils))))):∃v m,ja S 125 [.one (.aW 5056320128 g 0)] al blk v m/\aqF F h g blk v m:=by
 have R:=O 8000192640 (.inl rfl);refine mL aCM (jg rfl) ?_;by_cases Z:h=[]
 .subst Z;have hz:(((0:Nat):Int)==0):=aa;simp only[go_sem,aa4,j,hz,u];exact⟨rfl,dk.refl _ _,λH=>absurd rfl H,λ_=>rfl⟩
 have Iu:(((I h:Nat):Int)==0)=false:=fd
 obtain⟨l0,h0⟩:=aP (iW.2 Z);have zI:decide (h=[])=false:=by simp[Z]
 have pb:=aGp F h l0 (.sl []) (.sl []) (.sl []) .uw (.sl []) hl h0;have X:=QQ (F:=F) (h:=h);have fail:∀A m,dk Yh blk m->oI F h=false->A 2=iB false->oh 0 (vn S al aev (rU al [(2,none)] (aqF F h g blk))) .ret A m:=λA m hk hv n=>by simp only[go_sem,n];exact⟨by rw[Vl,zI,hv];rfl,hk,λ_ H=>(by rw[hv]at H;cases H),λH=>absurd H Z⟩
 have ap:zU F h=false->oI F h=false:=λH=>by simp[oI,H]
 have M:=λH=>ap (by
  cases hq:zU F h with
  |false=>rfl
  |true=>exact absurd (X.1 hq) H)
 simp only[go_sem,aa4,j,Iu,u,R];have T:dk Yh blk (dz blk 8000192640 ((blk 8000192640).1+1,some (.nH 29 1 (Hn g)))):=dk.dz (dk.refl _ _) (.inr (.inl rfl)) _;generalize Q:dz blk 8000192640 ((blk 8000192640).1+1,some (.nH 29 1 (Hn g)))=N;rw[Q]at T;have L:N 8000192640=((blk 8000192640).1+1,some (.nH 29 1 (Hn g))):=by rw[<-Q];simp only[go_sem]
 have j:N 5056320128=(g,some (.var (yV F h (.p .nils) (.p .nils) (.p .nils) (.p .uw) (.p .nils)))):=by rw[<-Q];simp only[go_sem,j]
 clear Q;have jP:s9 N (.one (.aW 5056320128 g 0))=some (.one (.p (PJ F h (.sl []) (.sl []) (.sl []) .uw (.sl []))),[5056320128]):=by simp only[go_sem,j]
 have xy:al.iG [5056320128]:=by simp only[go_sem,u]
 refine ab4 0 J rfl aHj R d9 lc lc L jP xy (ay5 F h (.sl []) (.sl []) (.sl []) .uw (.sl []) hl ⟨rfl,rfl,rfl,rfl,rfl⟩) (λf A n=>fail A N T (M λH=>by simp[H.1]at f) n) (λf A z y x=>?_);have Q:h.any (eK F)=false:=by simpa using f
 have tF:=λl hl=>by simpa using HI.1 Q l hl
 have hg:=λl hl hp=>((nu hp).1 (tF l hl)).1.1.1;refine ab4 1 J rfl aBA R z y x L jP xy pb (λf A n=>fail A N T (by simp only[oI,h0,f];rfl) n) (λan A z y x=>?_);clear f;have am:mI N (.one (.aW 5056320128 g 0))=[5056320128]:=by rw[Y3 j];simp[aef]
 refine apg 2 J rfl ah R z y x L ?_ (aAK (uI (by simp[am])) (λid H=>zy (by rw[ale,H];rfl)) hl hF hg j) (λv m H=>H.1) ?_ ?_
 .refine Mk ?_ ?_
  .show al.iG ([V.one (.aW 5056320128 g 0)].map (mI N)).flatten=true;simp only[fq,ml,am,tR,T2,j_];exact xy
  show(S.sites 165).all al.fs.contains=true;rw[ale];simp only[vO,Br,f1];rfl
 .intro f v A m hp n;exact fail A m (T.trans (hp.2.1.WC λid H=>H.elim .inl λH=>.inr (.inr (.inl H)))) (M λH=>by rw[H.2.1]at f;cases f) n
 intro jj v A bt hp z y x;obtain⟨_,kJ,Bb⟩:=hp;obtain⟨g1,D,B,g5,j,bC,bW,pK,bA⟩:=Bb jj;have kG:Ec F h:=by obtain⟨a,b⟩:=(Ji hg).1 jj;exact⟨a,b⟩
 rw[aGW kG]at bA;rw[CF hg]at j;have L:bt 8000192640=((blk 8000192640).1+1,some (.nH 29 1 (Hn g))):=by rw[<-L];exact kJ _ aa
 have Y:=T.trans (kJ.WC λid H=>H.elim .inl λH=>.inr (.inr (.inl H)));have oC:=O 10560064448 (.inr (.inl rfl));have oW:=O 10560128448 (.inr (.inl rfl));have oP:=O 10560192448 (.inr (.inl rfl));have oA:=O 10561344128 (.inr (.inl rfl));have oM:=O 10624256064 (.inr (.inr rfl));have QO:mI bt (.one (.aW 5056320128 g 0))=[5056320128,10560128448,10561344128,10560192448,10560064448]:=by rw[Y3 j];simp only[fq,ml,aef,MM bW,MM bA,MM pK,MM bC,tR,T2,gM,j_,B2]
 refine apg 3 J rfl ah R z y x L ?_ (axA (uI (by simp[QO])) (λid H=>zy (by rw[ajf,H];rfl)) hl j) (λv m H=>H.1) ?_ ?_
 .refine Mk ?_ ?_
  .show al.iG ([V.one (.aW 5056320128 g 0)].map (mI bt)).flatten=true;simp only[fq,ml,QO,tR,T2,j_,aap,aeJ,u,oC,oW,oP,oA,Bu]
  show(S.sites 166).all al.fs.contains=true;rw[ajf];simp only[vO,Br,f2];rfl
 .intro f v A m hp n;exact fail A m (Y.trans (hp.2.1.WC λid H=>H.elim .inl λH=>.inr (.inr (.inr H)))) (M λH=>by rw[H.2.2]at f;cases f) n
 intro fA v A nE hp z y x;obtain⟨_,E,ar⟩:=hp;obtain⟨g4,j,bM⟩:=ar fA;have kp:∀id,lf id=165->nE id=bt id:=λid H=>E id (by
  rintro(e|e)
  .rw[e]at H;revert H;decide
  rw[e]at H;revert H;decide)
 rw[<-kp _ rfl]at bC bW pK bA;have ab:=Y.trans (E.WC λid H=>H.elim .inl λH=>.inr (.inr (.inr H)));have pf:=aCy ⟨hl,kG,fA,λl hl=>Dy (tF l hl)⟩;have ad:oI F h=(fV h==aq U.ay h+aq U.au h/2+2):=by
  have ag:(l0.kind==1)/\(aq U.ay h%2==0):=by simpa using an
  simp only[oI,h0,ag.1,ag.2,X.2 ⟨Q,jj,fA⟩,BE]
 have t1:List.take (I h) (dx (l8 h))=dx (l8 h):=eT aIv;have t2:List.take (I (aA h)) (aY (aA h))=aY (aA h):=eT aG;have t3:List.take (I h) (aY (lT h (I h)))=aY (lT h (I h)):=eT (by simp[lT]);have t4:List.take (F+1) (aY (gY h F))=aY (gY h F):=eT at8;have n1:I h<=I (l8 h):=aIv
 have n3:I h<=I (lT h (I h)):=by simp[lT]
 have n4:F+1<=I (gY h F):=at8
 have jP:s9 nE (.one (.aW 5056320128 g 0))=some (.one (.p (pX F h)),[5056320128,10560128448,10561344128,10560192448,10624256064,10560064448]):=by simp only[go_sem,am4,j,bW,bA,pK,bC,bM,adC,t1,t2,t3,t4,n1,n3,n4]
 refine ab4 4 J rfl aGD R z y x (by rw[<-L];exact E _ aa) jP (by simp only[aap,aeJ,u,oC,oW,oP,oA,oM,Bu]) pf (λf A n=>fail A nE ab (by rw[ad];exact f) n) (λqT A z y x=>?_);have hv:oI F h:=by rw[ad];exact qT
 refine oG ?_;have n5:¬((((4+1:Nat)):Int)<5):=aa;simp only[go_sem,Eu,aev,y,x,n5];exact⟨by rw[Vl,zI,hv];rfl,ab,λ_ _=>⟨g1,D,B,g4,g5,j,bC,bW,pK,bA,bM⟩,λH=>absurd H Z⟩
abbrev CS(f:Int):PV:=PJ f [] (.sl []) (.sl []) (.sl []) .uw (.sl [])
abbrev Cu(a b:PV):RV:=.tup [.one (.p a),.one (.p b)]
def Ra(f:Int)(h:ae):RV:=if fP f h=0 then Cu (if h=[]then CS f else pX f.toNat h) (.int .i64 0)else Cu .Bm (.int .i64 (fP f h))
def kR{blk:aH}{s:Nat}{a b:PV}{l:Bool}:fQ blk [] s ((Cu a b).gV l)=some (.tup [.one (.p a),.one (.p b)],[]):=by cases l<;>rfl
def So{h:ae}{e:Int}(j:fP f h=e)(H:e≠0):Ra f h=Cu .Bm (.int .i64 e):=by unfold Ra;rw[j,aE H]
def Sx{h:ae}(H:fP f h=0):Ra f h=Cu (if h=[]then CS f else pX f.toNat h) (.int .i64 0):=by unfold Ra;rw[aI H]
def XX(f:Int)(h:ae)(hl:I h<=1000000):aC S 79 [c7 f h] (Ra f h):=by
 have pc:=ad0 f h hl;refine ba aEK ?_;by_cases Z:400<I h
 .have m:(400:Int)<(I h:Int):=J;rw[So (by unfold fP;rw[aI (Or.inl Z)]) aa];simp only[go_sem,K_,m];rfl
 have m:¬(400:Int)<(I h:Int):=J;by_cases O:200<aq U.au h
 .have j:(200:Int)<(aq U.au h:Int):=J;rw[So (by unfold fP;rw[aI (Or.inr O)]) aa];simp only[go_sem,K_,m,j,J4,ie pc];rfl
 have j:¬(200:Int)<(aq U.au h:Int):=J;have n:¬(400<I h\/200<aq U.au h):=J;by_cases x:f<0
 .rw[So (by unfold fP;rw[aE n,aI (Or.inl x)]) aa];simp only[go_sem,K_,m,j,x,J4,ie pc];rfl
 by_cases E:40<f
 .rw[So (by unfold fP;rw[aE n,aI (Or.inr E)]) aa];simp only[go_sem,K_,m,j,x,E,J4,ie pc];rfl
 have y:¬(f<0\/40<f):=J;obtain⟨F,rfl⟩:=lV (show 0<=f by omega);have gO:S.shared 125:=ah;simp only[go_sem,K_,m,j,x,E,J4,ie pc,gO];refine rG uS (auj (F:=F) ?_ ?_ ?_ ?_ hl J ?_) ?_
 .refine uI ?_;rw[fq,ml,Y3 (g0:=1) (X:=yV F h (.p .nils) (.p .nils) (.p .nils) (.p .uw) (.p .nils)) d9];simp
 .intro id M;refine zy ?_;rw[adX];rcases M with M|M|M<;>rw[M]<;>rfl
 .show(S.sites 125).contains _=true;rw[adX];rfl
 .show(S.sites 125).contains _=true;rw[adX];rfl
 .simp only[go_sem]
 rintro v ak ⟨rfl,hk,hr,hz⟩
 unfold Vl;by_cases H:h=[]
 .have u:=hz H;rw[Sx (by unfold fP;rw[aE n,aE y,aI H]),aI H];have z:(decide (h=[])||oI F h)=true:=by simp[H]
  rw[z];subst H;simp only[go_sem]at u;simp only[go_sem];simp only[go_sem,iD,mM,yO,kZ,kD,iN,u];rfl
 have z:decide (h=[])=false:=mt
 cases L:oI F h with
 |false=>rw[So (e:=3) aHQ aa];rw[z,H7];simp only[go_sem];rfl
 |true=>
  have hc:fP F h=0:=aHQ
  rw[Sx hc,aE H];obtain⟨g1,D,B,g4,g5,u,X,bW,pK,bA,bM⟩:=hr H L;have A:(F:Int).toNat=F:=rfl;rw[A];have t1:List.take (I h) (dx (l8 h))=dx (l8 h):=eT aIv;have T:List.take (I (aA h)) (aY (aA h))=aY (aA h):=eT aG;have N:List.take (I h) (aY (lT h (I h)))=aY (lT h (I h)):=eT (by simp[lT]);have Q:List.take (F+1) (aY (gY h F))=aY (gY h F):=eT at8;have n:I h<=I (l8 h):=aIv
  have R:I h<=I (lT h (I h)):=by simp[lT]
  have Y:F+1<=I (gY h F):=at8
  rw[z,H7];simp only[go_sem];simp only[go_sem,iD,mM,yO,kZ,kD,iN,am4,u,bW,bA,pK,X,bM,adC,t1,T,N,Q,n,R,Y];rfl
abbrev c6(k a b c:Int)(l o:Bool)(s:Int):V:=.agg [.p (.int .i64 k),.p (.int .i64 a),.p (.int .i64 b),.p (.int .i64 c),.p (.bool l),.p (.bool o),.p (.int .i64 s)]
abbrev uF(e:Int):RV:=.tup [.agg [.p (.int .i64 0),.p .nils],.one (.p (.int .i64 e))]
def aeZ{blk:aH}{s:Nat}{e:Int}{l:Bool}:fQ blk [] s ((uF e).gV l)=some (.tup [.agg [.p (.int .i64 0),.p .nils],.one (.p (.int .i64 e))],[]):=by cases l<;>rfl
section
variable {f:Int} {h:ae} {e:Int}
abbrev kinds(k:Nat):aD:=(List.range k).map (· +1)
end
def jB(n v:Nat)(u:Bool):Nat:=if u then 2*((v+n-1)%n)else 2*v+1
def acx(n e:Nat):Nat:=if e%2=0 then e/2 else(e/2+1)%n
theorem yW(H:v<n):((v+n-1)%n+1)%n=v:=by
 by_cases h:v=0
 .subst h;rw[lh,fC (show n-1<n by omega),show n-1+1=n by omega,yN]
 rw[show v+n-1=(v-1)+n by omega,rn,fC (show v-1<n by omega),show v-1+1=v by omega,fC H]
def DF(H:v<n):((v+1)%n+n-1)%n=v:=by
 by_cases h:v+1=n
 .rw[h,yN,lh,fC J];omega
 rw[fC (show v+1<n by omega),show v+1+n-1=v+n by omega,rn,fC H]
def apS(H:v<n)(g:Bool):acx n (dS n v g)=v/\(dS n v g%2==0)=g:=by
 unfold acx dS;cases g with
 |true=>grind
 |false=>have h:(2*((v+n-1)%n)+1)%2=1:=J;have f:(2*((v+n-1)%n)+1)/2=(v+n-1)%n:=J;simp only[iJ,if_false,h,f,Nat.one_ne_zero,yW H];exact⟨trivial,rfl⟩
def Of(h:ae)(ax:aD)(e:Nat):Nat:=
 if 2*I h<=e then
  if e%2=0 then jB (I h) (ax.getD ((e-2*I h)/2) 0) (dn h (ax.getD ((e-2*I h)/2) 0))
  else jB (I h) (ax.getD (((e-2*I h)/2+1)%I ax) 0) (!dn h (ax.getD (((e-2*I h)/2+1)%I ax) 0))
 else
  let v:=acx (I h) e
  let g:=e%2==0
  match h[v]? with
  |none=>0
  |some l=>if l.kind==2 then
    match h[iV h v]? with
    |some u=>jB (I h) (iV h v) (g==(u.over==(u.sign==1)))
    |none=>0
   else if g==dn h v then 2*I h+2*ax.idxOf v+1 else 2*I h+2*((ax.idxOf v+I ax-1)%I ax)
def qy{h:ae}(H:oH h){i:Nat}{l:U}(hl:h[i]?=some l)(j:l.au):iV h (iV h i)=i/\ ∃m,h[iV h i]?=some m/\m.au/\m.id=l.id/\m.over= !l.over/\m.sign=l.sign:=by
 obtain⟨D,F⟩:=Tx H hl j;obtain⟨_,v⟩:=NW D;obtain⟨m,f,M,n,u⟩:=FG v;have hp:Jj h:=by have:=H;unfold oH at this;simp at this;exact(IH.1 this.1.2).2
 have E:i≠iV h i:=ii
 obtain⟨B,N⟩:=Tx H f M;obtain⟨_,A⟩:=NW B;obtain⟨x,z,X,L,O⟩:=FG A;refine⟨?_,m,f,M,n,u,((hp i _ l m hl f j M n.symm E).2).symm⟩;refine Decidable.byContradiction λy=>?_;have:=(hp _ i x l z hl X j J y).1
 grind
def afU{h:ae}{ax:aD}{d:Nat}{l:U}(j:¬2*I h<=d)(f:(d%2==0)=u)(H:v=if u then(d/2+1)%I h else d/2)(hl:h[v]?=some l):
  jd h ax d=if l.kind==2 then dS (I h) (iV h v) (u==(l.over==(l.sign==1)))
   else if dn h v==u then 2*I h+2*ax.idxOf v else 2*I h+2*((ax.idxOf v+I ax-1)%I ax)+1:=by
 subst f;unfold jd
 grind
theorem aAa{h:ae}(ok:fY F h){d:Nat}(hd:d<2*I h+2*I (aA h)):Of h (aA h) (jd h (aA h) d)=d:=by
 have kG:∀x∈aA h,x<I h/\ ∃l,h[x]?=some l/\l.ay:=λx hx=>by obtain⟨l,h1,y⟩:=sX.1 hx;exact⟨(bN.1 h1).1,l,h1,y⟩
 have L:∀ {p v:Nat},(aA h)[p]?=some v->(aA h).idxOf v=p:=λ{p v} hp=>by obtain⟨l,hl,Q,he⟩:=v_ ok.ax hp;rw[L4 ok.ax hl Q,he]
 have A:∀ {v:Nat} (g:Bool),v<I h-> ¬2*I h<=dS (I h) v g:=λ{v} g H=>by have:=C4 (u:=g) H;omega
 have N:∀ {l:U},l.ay->(l.kind==2)=false:=λ{l} ab=>oV ab;have f:∀ {p v:Nat} (g:Bool),(aA h)[p]?=some v->Of h (aA h) (dS (I h) v g)=if g==dn h v then 2*I h+2*p+1 else 2*I h+2*((p+I (aA h)-1)%I (aA h)):=by intro p v g hp;obtain⟨H,l,hl,Q⟩:=kG v (a8 hp);obtain⟨n,E⟩:=apS H g;unfold Of;rw[aE (A g H)];simp only[n,E,hl,N Q,L hp];rfl
 by_cases ab:2*I h<=d
 .unfold jd;rw[aI ab];by_cases y:d%2=0
  .rw[aI y];obtain⟨v,H⟩:=aP (dB ((d-2*I h)/2+1) (show 0<I (aA h) by omega));have T:(aA h).getD (((d-2*I h)/2+1)%I (aA h)) 0=v:=by rw[dM,H];rfl
   rw[T,f _ H];have z:((!dn h v)==dn h v)=false:=by cases dn h v<;>rfl
   rw[z,DF J];simp only[iJ,if_false];omega
  rw[aE y];obtain⟨v,H⟩:=aP (h:=aA h) (k:=(d-2*I h)/2) J;have T:(aA h).getD ((d-2*I h)/2) 0=v:=by rw[dM,H];rfl
  rw[T,f _ H];simp only[y8,if_true];omega
 have hn:0<I h:=J;have qV:=dB (d/2+1) hn;have D:∀(v:Nat) (u:Bool),v<I h->(d%2==0)=u->v=(if u then(d/2+1)%I h else d/2)->jB (I h) v u=d:=by
  intro v u H j O;unfold jB;cases u with
  |true=>
   have j:d%2=0:=by simpa using j
   simp only[if_true]at O |-;rw[O,DF J];omega
  |false=>
   have j:d%2≠0:=by simpa using j
   simp only[iJ,if_false]at O |-;omega
 generalize H:(if(d%2==0)=true then(d/2+1)%I h else d/2)=v;generalize j:(d%2==0)=u at H;have X:v<I h:=by rw[<-H];split<;>omega
 have M:=D v u X j H.symm;obtain⟨l,hl⟩:=aP X;rw[afU ab j H.symm hl];cases Y:(l.kind==2)with
 |true=>
  have hc:=Y;obtain⟨z,m,hm,mc,mi,mo,ms⟩:=qy ok.cr hl hc;have QJ:=(Tx ok.cr hl hc).2;rw[aI rfl];obtain⟨n,E⟩:=apS QJ (u==(l.over==(l.sign==1)));unfold Of;rw[aE (A _ QJ)];have mk:(m.kind==2):=mc;simp only[n,E,hm,mk,if_true,z,hl];have yv:((u==(l.over==(l.sign==1)))==(l.over==(l.sign==1)))=u:=by cases u<;>cases(l.over==(l.sign==1))<;>rfl
  rw[yv];exact M
 |false=>
  have hp:=ok.U4 hl Y;have R:=Lt ok.ax hl hp;have B:=(bN.1 R).1;rw[aE aG,L4 ok.ax hl hp];cases Z:(dn h v==u)with
  |true=>
   simp only[if_true];unfold Of;rw[aI J,aI J];have n:(2*I h+2*dN h l-2*I h)/2=dN h l:=J;have E:(aA h).getD (dN h l) 0=v:=by rw[dM,R];rfl
   rw[n,E,show dn h v=u by simpa using Z];exact M
  |false=>
   have iX:=dB (dN h l+I (aA h)-1) J;simp only[iJ,if_false];unfold Of;rw[aI J,aE J];have n:(2*I h+2*((dN h l+I (aA h)-1)%I (aA h))+1-2*I h)/2=(dN h l+I (aA h)-1)%I (aA h):=J;have E:(aA h).getD (dN h l) 0=v:=by rw[dM,R];rfl
   rw[n,yW B,E,show(!dn h v)=u by revert Z;cases dn h v<;>cases u<;>simp];exact M
def arD{h:ae}(ok:fY F h){d e:Nat}(H:d<2*I h+2*I (aA h))(f:e<2*I h+2*I (aA h))(j:aT h d=aT h e):d=e:=by grind [aAa]
def LX(next:Nat->Nat)(y:Nat):Nat->Nat->dK->aD×dK
 |0,_,f=>([],f)
 |k+1,x,f=>if x<y then
   if f.getD x true then([],f)else(x::(LX next y k (next x) (f.set x true)).1,(LX next y k (next x) (f.set x true)).2)
  else(x::(LX next y k (next x) f).1,(LX next y k (next x) f).2)
abbrev dO(S:dK)(x:Nat):Bool:=S.getD x true
def U3{S:dK}{y:Nat}(h:x<I S):dO (S.set x true) y=if y=x then true else dO S y:=by grind
structure B_ (next:Nat->Nat) (n2 N:Nat):Prop where
 le:n2<=N
 lt:∀x,x<N->next x<N
 inj:∀x y,x<N->y<N->next x=next y->x=y
 ax:∀x,x<N->n2<=x->next x<n2
def QD(next:Nat->Nat)(N:Nat)(S:dK):Prop:=∀y,y<N->dO S y=dO S (next y)
structure Inv (next:Nat->Nat) (N d:Nat) (S:dK) (x:Nat):Prop where
 i1:∀y,y<N->dO S (next y)->dO S y\/next y=d
 i2:∀y,y<N->dO S y->dO S (next y)\/next y=x
 i4:dO S x->x=d
 pr:(x=d/\dO S x=false)\/ ∃p,p<N/\next p=x/\dO S p
def Inv.start{next:Nat->Nat}{d:Nat}{S:dK}(h:QD next N S)(f:dO S d=false):Inv next N d S d:=
 ⟨λy H af=>.inl (by rw[h y H];exact af),λy H af=>.inl (by rw[<-h y H];exact af),λ_=>rfl,.inl ⟨rfl,f⟩⟩
def Inv.stop{next:Nat->Nat}{d:Nat}{S:dK}(m:B_ next y N)(h:Inv next N d S x)(n:dO S x):QD next N S:=by
 have f:=h.i4 n;subst f;intro Y j;cases v:dO S Y with
 |true=>
  rcases h.i2 Y j v with H|H
  .rw[H]
  rw[H,n]
 |false=>
  cases H:dO S _ with
  |false=>rfl
  |true=>
   rcases h.i1 Y j H with u|u
   .grind
   rcases h.pr with _|⟨p,hp,z,E⟩
   .grind
   have:=m.inj Y p j hp J
   grind
def Inv.step{next:Nat->Nat}{d:Nat}{S:dK}(m:B_ next y N)(hl:I S=N)(n:x<N)(h:Inv next N d S x)(v:dO S x=false):Inv next N d (S.set x true) (next x):=by
 have j:x<I S:=J;refine⟨λY f af=>?_,λY f af=>?_,λaf=>?_,.inr ⟨x,n,rfl,by rw[U3 j,aI rfl]⟩⟩
 .rw[U3 j]at af |-;by_cases e:next Y=x
  .rcases h.pr with⟨u,_⟩|⟨p,hp,z,E⟩
   .grind
   have:=m.inj Y p f hp J
   grind
  rw[aE e]at af;rcases h.i1 Y f af with H|H
  .grind
  exact .inr H
 .rw[U3 j]at af |-;by_cases e:Y=x
  .subst e;exact .inr rfl
  rw[aE e]at af;rcases h.i2 Y f af with H|H
  .grind
  left;rw[aI H]
 rw[U3 j]at af;by_cases e:next x=x
 .rcases h.pr with⟨u,_⟩|⟨p,hp,z,E⟩
  .rw[e,u]
  have:=m.inj p x hp n J
  grind
 rw[aE e]at af;rcases h.i1 x n af with H|H
 .rw[v]at H;cases H
 exact H
def acA{S:dK}(h:x<y)(hl:y<=I S):(S.take y).getD x true=dO S x:=by grind
theorem agu{S:dK}:(S.take y).set x true=(S.set x true).take y:=by rw[<-List.take_set]
theorem aow{S:dK}(h:y<=x):(S.set x true).take y=S.take y:=by grind [List.take_set,Ub]
def aFB{next:Nat->Nat}{d:Nat}(m:B_ next y N)(B:d<y):∀(f x:Nat) (S:dK),I S=N->x<N->Inv next N d S x->BX S<f->
  QD next N (hU next f x S).2/\LX next y f x (S.take y)=((hU next f x S).1,(hU next f x S).2.take y):=by
 intro f
 induction f with
 |zero=>intro x S _ _ _ h;omega
 |succ f v=>
  intro x S hl j H F;have z:=m.le;unfold hU LX;cases af:S.getD x true with
  |true=>have n:=H.i4 af;have A:x<y:=J;rw[aI A,acA A J,show dO S x=true from af];exact⟨H.stop m af,rfl⟩
  |false=>
   have Q:S[x]?=some false:=ii
   have D:=Sm Q;obtain⟨u,E⟩:=v (next x) (S.set x true) ii (m.lt x j) (H.step m hl j af) J;refine⟨u,?_⟩;by_cases A:x<y
   .rw[aI A,acA A J,show dO S x=false from af]
    grind [agu]
   grind [aow]
end
end Go.Abs
