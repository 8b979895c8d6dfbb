/- A part. -/
import Derived.Test.YtkdkhndppjfpmaaGreatDoorSa
set_option linter.all false
open List renaming length->I
set_option maxRecDepth 100000
set_option maxHeartbeats 16000000
namespace Go.Abs
variable{x n g y z v T u m j:Nat}{h:ct}{Q:hs}
section
variable{f:Int}{F:Nat}
structure aa where
 kind:Int
 gate:Int
 ay:Int
 id:Int
 sign:Int
 over:Bool
 deriving DecidableEq
abbrev ai:=List aa
abbrev Ax:=List ai
def aa.ps(l:aa):b_:=[.int .i64 l.kind,.int .i64 l.gate,.int .i64 l.ay,.int .i64 l.id,.int .i64 l.sign,.bool l.over]
def aa.aI(l:aa):Bool:=l.kind==1
def aa.aB(l:aa):Bool:=l.kind==2
abbrev eg(ls:ai):PV:=.sl (ls.map aa.ps)
abbrev c_(f:Int)(ls:ai):V:=.agg [.p (.int .i64 f),.p (eg ls)]
abbrev qg(f:Int)(ls:ai):eE:=[.p (.int .i64 f),.p (eg ls)]
abbrev aH(k:Int):V:=.one (.p (.int .i64 k))
abbrev gE(b:Bool):V:=.one (.p (.bool b))
abbrev ja(k:Int):RV:=.one (.p (.int .i64 k))
abbrev cO(k:Bool):RV:=.one (.p (.bool k))
abbrev an(p:aa->Bool)(ls:ai):Nat:=ls.countP p
def aT{α:Type}{L:List α}{k:Nat}(h:k<I L):∃l,L[k]?=some l:=⟨L[k],by simp[h]⟩
def uf{p:aa->Bool}{L:ai}{k:Nat}{l:aa}(h:L[k]?=some l)(hp:p l):an p (L.take (k+1))=an p (L.take k)+1:=by unfold an;obtain⟨H,rfl⟩:=cn.1 h;rw[WE H,um,adu,aD hp]
def mH{p:aa->Bool}{L:ai}{k:Nat}{l:aa}(h:L[k]?=some l)(hp:p l=false):an p (L.take (k+1))=an p (L.take k):=by unfold an;obtain⟨H,rfl⟩:=cn.1 h;rw[WE H,um,adu,hp];rfl
def BX(p:aa->Bool)(L:ai)(k:Nat):an p (L.take k)<=k:=ny Nr (by rw[gX];exact Nat.min_le_left _ _)
def o7(p:aa->Bool)(L:ai):an p L<=I L:=Nr
def gb{L:ai}{k:Nat}{l:aa}(h:L[k]?=some l):(L.map aa.ps)[k]?=some l.ps:=by simp[h]
def vc{a b:Nat}(h:a+b<=9223372036854775807):IntKind.i64.wrap ((a:Int)+(b:Int))=((a+b:Nat):Int):=wrap_small (n:=a+b) h
def rB{a:Nat}(h:2*a<=9223372036854775807):IntKind.i64.wrap (2*(a:Int))=((2*a:Nat):Int):=wrap_small (n:=2*a) h
def UR{a b:Nat}(h:b<=a)(H:a<=9223372036854775807):IntKind.i64.wrap ((a:Int)-(b:Int))=((a-b:Nat):Int):=by have:((a:Int)-(b:Int))=((a-b:Nat):Int):=J;rw[this];exact wrap_small J
def EF{a:Nat}(h:1<=a)(H:a<=9223372036854775807):IntKind.i64.wrap ((a:Int)-1)=((a-1:Nat):Int):=UR (b:=1) h H
def acQ(x y:Option (b_×aF))(f:Nat):Option (PV×aF):=match x,y with
 |some (x,r),some (y,s)=>some (.fn f x y,r++s)
 |_,_=>none
def aAs{x y:b_}{r s:aF}{f:Nat}:acQ (some (x,r)) (some (y,s)) f=some (.fn f x y,r++s):=rfl
def aqv{aj:aN}{f:Nat}{a b:eE}:snap aj fA (.hfn f a b)=acQ (iD (snap aj 5) a) (iD (snap aj 5) b) f:=by unfold fA;rw[snap];unfold acQ;rfl
def aq1{aj:aN}{id:Nat}:snap aj (n+1) (.bm id g y)=Rt (aj id) (iD (snap aj n)) id g y:=by rw[snap];rfl
def atv{aj:aN}{id len:Nat}:snap aj (n+1) (.hsl id g z y len)=RO (aj id) (iD (iD (snap aj n))) id g y len:=by rw[snap];rfl
def aA{b:Bool}(h:b:=by kernel_rfl):b:=h
def bj{f:Nat}{fn:aX}{A:dT}{r:RV}(H:S.fns f=some fn)(h:ch S .all fn.body (sO .all fn.results λv aj=>iR aj v=some r) (s_ A) BT)(hp:S.prim f A=none:=by rfl)(hl:I A<=fn.ntmps:=by exact jc rfl):aK S f A r:=atj hp H hl h
def eH:¬((2:Int)=0):=U
def tB(a b:Nat):(a:Int).tmod b=((a%b:Nat):Int):=by rw[Int.tmod_eq_emod_of_nonneg J];rfl
def k_(a:Nat):(a:Int).tmod 2=((a%2:Nat):Int):=tB a 2
def fW(a:Nat):(a:Int).tdiv 2=((a/2:Nat):Int):=by rw[abd J];rfl
def eR:¬((n:Int)<(n:Int)):=J
def dD(l:aa):I l.ps=6:=rfl
def azN{aj:aN}{all:aF}:uO aj all []=some []:=rfl
attribute [go_sem] aqv aAs aq1 atv azN
def pQ(g:Int)(l:aa):Bool:=l.aI&&l.gate==g
def oI(g:Int)(l:aa):Bool:=l.aB&&l.id==g
def acs(f:Int)(L:ai)(hl:I L<=1000000):aK S 117 [c_ f L] (ja (an aa.aI L)):=by
 refine bj apK ?_;simp only[go_sem,agY,af,ao];refine dy (λk h _=>h 7=.one (.p (eg L))/\h 8=aH (I L)/\h 9=aH k/\h 3=aH (an aa.aI (L.take k))) 0 (I L) (cG _) ?_ ?_
 .simp only[go_sem];exact⟨rfl,rfl⟩
 rintro k h aj E ⟨z,g,m,H⟩
 by_cases A:k<I L
 .obtain⟨l,j⟩:=aT A;have x:=gb j;have y:((k:Int)<(I L:Int)):=J;have D:=BX (aa.aI) L k;have v:=cN (n:=k) J;have B:=cN (n:=an (aa.aI) (L.take k)) J;cases hp:(l.kind==1)with
  |true=>have u:=uf (p:=aa.aI) j hp;simp only[go_sem,Uu,H,z,g,m,x,dD,aa.ps,y,v,B,hp,u,af,ao];first|exact A|exact⟨A,rfl⟩
  |false=>have u:=mH (p:=aa.aI) j hp;simp only[go_sem,Uu,H,z,g,m,x,dD,aa.ps,y,v,B,hp,u,af,ao];first|exact A|exact⟨A,rfl⟩
 have:k=I L:=J;subst this;rw[lA]at H;simp only[go_sem,Uu,ahy,H,g,m,eR,af,ao]
def Xs(f:Int)(L:ai)(hl:I L<=1000000):aK S 89 [c_ f L] (ja (an aa.aB L)):=by
 refine bj auw ?_;simp only[go_sem,amP,af,ao];refine dy (λk h _=>h 7=.one (.p (eg L))/\h 8=aH (I L)/\h 9=aH k/\h 3=aH (an aa.aB (L.take k))) 0 (I L) (cG _) ?_ ?_
 .simp only[go_sem];exact⟨rfl,rfl⟩
 rintro k h aj E ⟨z,g,m,H⟩
 by_cases A:k<I L
 .obtain⟨l,j⟩:=aT A;have x:=gb j;have y:((k:Int)<(I L:Int)):=J;have D:=BX (aa.aB) L k;have v:=cN (n:=k) J;have B:=cN (n:=an (aa.aB) (L.take k)) J;cases hp:(l.kind==2)with
  |true=>have u:=uf (p:=aa.aB) j hp;simp only[go_sem,TT,H,z,g,m,x,dD,aa.ps,y,v,B,hp,u,af,ao];first|exact A|exact⟨A,rfl⟩
  |false=>have u:=mH (p:=aa.aB) j hp;simp only[go_sem,TT,H,z,g,m,x,dD,aa.ps,y,v,B,hp,u,af,ao];first|exact A|exact⟨A,rfl⟩
 have:k=I L:=J;subst this;rw[lA]at H;simp only[go_sem,TT,aeS,H,g,m,eR,af,ao]
def ahr(f:Int)(L:ai)(hl:I L<=1000000):aK S 118 [c_ f L] (ja ((an aa.aB L/2:Nat))):=by
 have h:=o7 aa.aB L;have E:IntKind.i64.wrap ((an aa.aB L:Int).tdiv 2)=((an aa.aB L/2:Nat):Int):=by
  have:(an aa.aB L:Int).tdiv 2=((an aa.aB L/2:Nat):Int):=by rw[abd J];omega
  rw[this];exact wrap_small J
 refine bj axB ?_;simp only[go_sem,akl,Fl,dJ (Xs f L hl),E,(by decide:¬(2:Int)=0),af,ao]
def ajJ(f:Int)(L:ai)(hl:I L<=1000000):aK S 38 [c_ f L] (ja (an aa.aI L)):=by
 refine bj as6 ?_;simp only[go_sem,aep,af,ao];refine dy (λk h aj=>h 1=.one (.bm 2432000000 1 0)/\aj 2432000000=(1,some (.var (qg f L)))/\h 4=aH k/\h 3=aH (an aa.aI (L.take k))) 0 (I L) (cG _) ?_ ?_
 .simp only[go_sem];first|exact⟨rfl,rfl⟩|exact⟨rfl,rfl,rfl⟩
 rintro k h aj D ⟨B,H,N,j⟩
 by_cases A:k<I L
 .obtain⟨l,g⟩:=aT A;have v:=gb g;have x:((k:Int)<(I L:Int)):=J;have z:=BX (aa.aI) L k;have u:=cN (n:=k) J;have y:=cN (n:=an (aa.aI) (L.take k)) J;cases hp:(l.kind==1)with
  |true=>have m:=uf (p:=aa.aI) g hp;simp only[go_sem,U7,B,H,N,j,v,dD,aa.ps,x,u,y,hp,m,af,ao];first|exact A|exact⟨A,rfl⟩
  |false=>have m:=mH (p:=aa.aI) g hp;simp only[go_sem,U7,B,H,N,j,v,dD,aa.ps,x,u,y,hp,m,af,ao];first|exact A|exact⟨A,rfl⟩
 have:k=I L:=J;subst this;rw[lA]at j;simp only[go_sem,U7,anV,B,H,N,j,eR,af,ao]
def adF(f:Int)(L:ai)(hl:I L<=1000000):aK S 37 [c_ f L] (ja (an aa.aB L)):=by
 refine bj arv ?_;simp only[go_sem,i37,af,ao];refine dy (λk h aj=>h 1=.one (.bm 2368000000 1 0)/\aj 2368000000=(1,some (.var (qg f L)))/\h 4=aH k/\h 3=aH (an aa.aB (L.take k))) 0 (I L) (cG _) ?_ ?_
 .simp only[go_sem];first|exact⟨rfl,rfl⟩|exact⟨rfl,rfl,rfl⟩
 rintro k h aj D ⟨B,H,N,j⟩
 by_cases A:k<I L
 .obtain⟨l,g⟩:=aT A;have v:=gb g;have x:((k:Int)<(I L:Int)):=J;have z:=BX (aa.aB) L k;have u:=cN (n:=k) J;have y:=cN (n:=an (aa.aB) (L.take k)) J;cases hp:(l.kind==2)with
  |true=>have m:=uf (p:=aa.aB) g hp;simp only[go_sem,RR,B,H,N,j,v,dD,aa.ps,x,u,y,hp,m,af,ao];first|exact A|exact⟨A,rfl⟩
  |false=>have m:=mH (p:=aa.aB) g hp;simp only[go_sem,RR,B,H,N,j,v,dD,aa.ps,x,u,y,hp,m,af,ao];first|exact A|exact⟨A,rfl⟩
 have:k=I L:=J;subst this;rw[lA]at j;simp only[go_sem,RR,aeA,B,H,N,j,eR,af,ao]
def NO(f:Int)(L:ai)(hl:I L<=1000000):aK S 41 [c_ f L] (ja ((an aa.aB L/2:Nat))):=by
 have h:=o7 aa.aB L;have E:IntKind.i64.wrap ((an aa.aB L:Int).tdiv 2)=((an aa.aB L/2:Nat):Int):=by
  have:(an aa.aB L:Int).tdiv 2=((an aa.aB L/2:Nat):Int):=by rw[abd J];omega
  rw[this];exact wrap_small J
 refine bj apk ?_;simp only[go_sem,aiP,mE,dJ (adF f L hl),E,(by decide:¬(2:Int)=0),af,ao]
def afk(f:Int)(L:ai)(hl:I L<=1000000)(g:Int):aK S 67 [c_ f L,aH g] (ja (an (pQ g) L)):=by
 refine bj at7 ?_;simp only[go_sem,amj,af,ao];refine dy (λk h aj=>h 2=.one (.bm 4288000000 1 0)/\aj 4288000000=(1,some (.var (qg f L)))/\h 6=aH k/\h 5=aH (an (pQ g) (L.take k))/\h 1=aH g) 0 (I L) (cG _) ?_ ?_
 .simp only[go_sem];first|exact⟨rfl,rfl⟩|exact⟨rfl,rfl,rfl⟩
 rintro k h aj M ⟨B,v,N,j,F⟩
 by_cases A:k<I L
 .obtain⟨l,m⟩:=aT A;have y:=gb m;have z:((k:Int)<(I L:Int)):=J;have E:=BX ((pQ g)) L k;have x:=cN (n:=k) J;have D:=cN (n:=an ((pQ g)) (L.take k)) J;cases hp:(l.kind==1)with
  |true=>
   cases u:(l.gate==g)with
   |true=>have H:=uf (p:=(pQ g)) m (by simp only[pQ,aa.aI,hp,u];rfl);simp only[go_sem,MT,B,v,N,j,y,dD,aa.ps,z,x,D,F,hp,u,H,af,ao];first|exact A|exact⟨A,rfl⟩
   |false=>have H:=mH (p:=(pQ g)) m (by simp only[pQ,aa.aI,hp,u];rfl);simp only[go_sem,MT,B,v,N,j,y,dD,aa.ps,z,x,D,F,hp,u,H,af,ao];first|exact A|exact⟨A,rfl⟩
  |false=>have H:=mH (p:=(pQ g)) m (by simp only[pQ,aa.aI,hp];rfl);simp only[go_sem,MT,B,v,N,j,y,dD,aa.ps,z,x,D,F,hp,H,af,ao];first|exact A|exact⟨A,rfl⟩
 have:k=I L:=J;subst this;rw[lA]at j;simp only[go_sem,MT,afH,B,v,N,j,eR,af,ao]
def avb(f:Int)(L:ai)(hl:I L<=1000000)(g:Int):aK S 68 [c_ f L,aH g] (ja (an (oI g) L)):=by
 refine bj aub ?_;simp only[go_sem,al8,af,ao];refine dy (λk h aj=>h 2=.one (.bm 4352000000 1 0)/\aj 4352000000=(1,some (.var (qg f L)))/\h 6=aH k/\h 5=aH (an (oI g) (L.take k))/\h 1=aH g) 0 (I L) (cG _) ?_ ?_
 .simp only[go_sem];first|exact⟨rfl,rfl⟩|exact⟨rfl,rfl,rfl⟩
 rintro k h aj M ⟨B,v,N,j,F⟩
 by_cases A:k<I L
 .obtain⟨l,m⟩:=aT A;have y:=gb m;have z:((k:Int)<(I L:Int)):=J;have E:=BX ((oI g)) L k;have x:=cN (n:=k) J;have D:=cN (n:=an ((oI g)) (L.take k)) J;cases hp:(l.kind==2)with
  |true=>
   cases u:(l.id==g)with
   |true=>have H:=uf (p:=(oI g)) m (by simp only[oI,aa.aB,hp,u];rfl);simp only[go_sem,P3,B,v,N,j,y,dD,aa.ps,z,x,D,F,hp,u,H,af,ao];first|exact A|exact⟨A,rfl⟩
   |false=>have H:=mH (p:=(oI g)) m (by simp only[oI,aa.aB,hp,u];rfl);simp only[go_sem,P3,B,v,N,j,y,dD,aa.ps,z,x,D,F,hp,u,H,af,ao];first|exact A|exact⟨A,rfl⟩
  |false=>have H:=mH (p:=(oI g)) m (by simp only[oI,aa.aB,hp];rfl);simp only[go_sem,P3,B,v,N,j,y,dD,aa.ps,z,x,D,F,hp,H,af,ao];first|exact A|exact⟨A,rfl⟩
 have:k=I L:=J;subst this;rw[lA]at j;simp only[go_sem,P3,agZ,B,v,N,j,eR,af,ao]
def bN (L:ai)(i:Nat):Bool:=an aa.aI (L.take i)%2==0
def I_(f:Int)(L:ai)(i:Nat)(hl:I L<=1000000)(F:i<=I L):aK S 47 [c_ f L,aH i] (cO (bN L i)):=by
 refine bj av1 ?_;simp only[go_sem,ajH,af,ao];refine dy (λk h aj=>h 1=aH i/\h 2=.one (.bm 3008000000 1 0)/\aj 3008000000=(1,some (.var (qg f L)))/\h 6=aH k/\h 5=aH (an aa.aI (L.take k))) 0 i (cG _) ?_ ?_
 .simp only[go_sem];exact⟨rfl,rfl⟩
 rintro k h aj O ⟨H,B,j,N,m⟩
 have M:=BX aa.aI L k;by_cases A:k<i
 .obtain⟨l,g⟩:=aT (L:=L) (k:=k) J;have x:=gb g;have y:((k:Int)<(i:Int)):=J;have v:=cN (n:=k) J;have z:=cN (n:=an aa.aI (L.take k)) J;cases hp:(l.kind==1)with
  |true=>have u:=uf (p:=aa.aI) g hp;simp only[go_sem,SH,H,B,j,N,m,x,dD,aa.ps,y,v,z,hp,u,af,ao];exact A
  |false=>have u:=mH (p:=aa.aI) g hp;simp only[go_sem,SH,H,B,j,N,m,x,dD,aa.ps,y,v,z,hp,u,af,ao];exact A
 have:k=i:=J;subst this;have E:((((an aa.aI (L.take k))%2:Nat):Int)==0)=bN L k:=by
  unfold bN;cases D:(an aa.aI (L.take k)%2==0)with
  |true=>simp at D |-;omega
  |false=>simp at D |-;omega
 simp only[go_sem,SH,anG,H,B,j,N,m,eR,eH,k_,E,af,ao]
def axF(a b:aa):aK S 100 [.agg (a.ps.map .p),.agg (b.ps.map .p)] (cO (decide (a.gate<b.gate)||(a.gate==b.gate&&decide (a.ay<b.ay)))):=by
 refine bj axL ?_;by_cases h:a.gate<b.gate
 .simp only[go_sem,UB,aa.ps,h,af,ao]
 cases H:(a.gate==b.gate)with
 |true=>simp only[go_sem,UB,aa.ps,h,H,af,ao]
 |false=>simp only[go_sem,UB,aa.ps,h,H,af,ao]
def eZ(n i:Nat)(f:Bool):Nat:=if f then 2*i else 2*((i+n-1)%n)+1
def aam(f:Int)(L:ai)(i:Nat)(F:Bool)(hl:I L<=1000000)(v:i<I L):aK S 101 [c_ f L,aH i,gE F] (ja (eZ (I L) i F)):=by
 refine bj aq8 ?_;cases F with
 |true=>have e:IntKind.i64.wrap (2*(i:Int))=((2*i:Nat):Int):=wrap_small (n:=2*i) J;simp only[go_sem,Wf,e,eZ,af,ao]
 |false=>
  have g:IntKind.i64.wrap ((i:Int)+(I L:Int))=((i+I L:Nat):Int):=wrap_small (n:=i+I L) J;have m:IntKind.i64.wrap (((i+I L:Nat):Int)-1)=((i+I L-1:Nat):Int):=by have:(((i+I L:Nat):Int)-1)=((i+I L-1:Nat):Int):=J;rw[this];exact wrap_small J
  have E:=tB (i+I L-1) (I L);have u:=fk (i+I L-1) (show 0<I L by omega);have j:IntKind.i64.wrap (2*(((i+I L-1)%I L:Nat):Int))=((2*((i+I L-1)%I L):Nat):Int):=wrap_small (n:=2*((i+I L-1)%I L)) J;have h:=cN (n:=2*((i+I L-1)%I L)) J;have H:¬((I L:Int)=0):=J;simp only[go_sem,Wf,g,m,E,j,h,H,eZ,af,ao]
def A5(L:ai)(i j:Nat):Bool:=j !=i&&(match L[j]? with|some l=>l.aB&&l.id==((L[i]?).map aa.id).getD 0|none=>false)
def i_(L:ai)(i:Nat):Nat:=((List.range (I L)).find? (A5 L i)).getD i
def AR{p:Nat->Bool}:∀ {n k:Nat},k<n->(∀j,j<k->p j=false)->p k->(List.range n).find? p=some k:=by intro n k h f hp;exact List.find?_range_eq_some.2 ⟨hp,by simpa using h,λj H=>by simp[f j H]⟩
def Gx{p:Nat->Bool}(H:∀j,j<n->p j=false):(List.range n).find? p=none:=by rw[G9];intro x h;simp[H x (by simpa using h)]
def aqh(f:Int)(L:ai)(i:Nat)(hl:I L<=1000000)(Z:i<I L):aK S 102 [c_ f L,aH i] (ja (i_ L i)):=by
 obtain⟨T,X⟩:=aT Z;have E:=gb X;have F:∀j l,L[j]?=some l->A5 L i j=(j !=i&&(l.aB&&l.id==T.id)):=λj l Y=>by simp[A5,Y,X]
 refine bj avr ?_;simp only[go_sem,afa,af,ao];refine dy (λk h aj=>h 1=aH i/\h 2=.one (.bm 6528000000 1 0)/\aj 6528000000=(1,some (.var (qg f L)))/\h 5=aH k/\ ∀j,j<k->A5 L i j=false) 0 (I L) (cG _) ?_ ?_
 .simp only[go_sem];exact⟨rfl,λj Y=>absurd Y (pG j)⟩
 rintro k h aj hk ⟨m,B,u,N,O⟩
 by_cases A:k<I L
 .obtain⟨l,R⟩:=aT A;have z:=gb R;have x:((k:Int)<(I L:Int)):=J;have v:=cN (n:=k) J;have D:=F k l R;have step:A5 L i k=false->∀j,j<k+1->A5 L i j=false:=λY j hj=>by
   rcases mQ.1 hj with h2|rfl
   .exact O j h2
   exact Y
  by_cases H:k=i
  .have g:((k:Int)!=(i:Int))=false:=by simp[H]
   have ae:=step (by rw[D];simp[H]);simp only[go_sem,Mn,m,B,u,N,z,x,v,g,af,ao];exact⟨ah,A,ae⟩
  have g:((k:Int)!=(i:Int)):=by simp;omega
  have Q:(k !=i):=by simp[H]
  cases hp:(l.kind==2)with
  |false=>have ae:=step (by rw[D,Q,aa.aB,hp];rfl);simp only[go_sem,Mn,m,B,u,N,z,E,dD,aa.ps,x,v,g,hp,af,ao];exact⟨ah,A,ae⟩
  |true=>
   cases y:(l.id==T.id)with
   |false=>have ae:=step (by rw[D,Q,aa.aB,hp,y];rfl);simp only[go_sem,Mn,m,B,u,N,z,E,dD,aa.ps,x,v,g,hp,y,af,ao];exact⟨ah,A,ae⟩
   |true=>
    have M:i_ L i=k:=by unfold i_;rw[AR A O (by rw[D,Q,aa.aB,hp,y];rfl)];rfl
    simp only[go_sem,Mn,m,B,u,N,z,E,dD,aa.ps,x,v,g,hp,y,M,af,ao];show ql _ _ _=true
    kernel_rfl
 have:k=I L:=J;subst this;have M:i_ L i=i:=by unfold i_;rw[Gx O];rfl
 simp only[go_sem,Mn,anE,m,B,u,N,eR,M,af,ao]
abbrev tU(l:aF):PV:=.sl (l.map λn:Nat=>[.int .i64 (n:Int)])
def azl(l:aF)(n f:Nat)(hl:I l<=1000000)(x:l[f]?=some n)(E:∀j,j<f->l[j]? ≠some n):aK S 85 [.one (.p (tU l)),aH n] (ja f):=by
 have g:=(cn.1 x).1;refine bj aks ?_;simp only[go_sem,abw,af,ao];refine dy (λk h aj=>h 0=.one (.p (tU l))/\h 1=aH n/\h 5=aH k) 0 f (cG _) ?_ ?_
 .simp only[go_sem];rfl
 rintro k h aj L ⟨v,B,D⟩
 have z:((k:Int)<(I l:Int)):=J;have u:=cN (n:=k) J;obtain⟨m,H⟩:=aT (L:=l) (k:=k) J;have y:(l.map λn:Nat=>[PV.int .i64 (n:Int)])[k]?=some [.int .i64 (m:Int)]:=by simp[H]
 by_cases A:k<f
 .have F:((m:Int)==(n:Int))=false:=by
   have:m≠n:=λe=>E k A (by rw[H,e]);simp;omega
  simp only[go_sem,Lr,v,B,D,z,u,y,F,af,ao];exact A
 have:k=f:=J;subst this;have e:m=n:=by rw[H]at x;exact rz x
 subst e;simp only[go_sem,Lr,v,B,D,z,u,y,af,ao]
abbrev uT(l:aa):V:=.agg [.p (.int .i64 l.kind),.p (.int .i64 l.gate),.p (.int .i64 l.ay),.p (.int .i64 l.id),.p (.int .i64 l.sign),.p (.bool l.over)]
def Fk(a b:aa):Bool:=decide (a.gate<b.gate)||(a.gate==b.gate&&decide (a.ay<b.ay))
def aww(a b:aa):aK S 100 [uT a,uT b] (cO (Fk a b)):=axF a b
abbrev a_(o:aF):q_:=o.map λn:Nat=>[PV.int .i64 (n:Int)]
def jG{o:aF}{k:Nat}(h:o[k]?=some n):(a_ o)[k]?=some [.int .i64 (n:Int)]:=by simp[h]
def C5(L:ai)(i j:Nat):Bool:=match L[j]?,L[i]? with
 |some a,some b=>Fk a b
 |_,_=>false
def BF(L:ai)(o:aF)(i:Nat):aF:=o.take (I (o.takeWhile (C5 L i)))++i::o.drop (I (o.takeWhile (C5 L i)))
def Ca(L:ai)(o:aF)(i:Nat):aF:=match L[i]? with
 |some l=>if l.aI then BF L o i else o
 |none=>o
def aE(L:ai):aF:=(List.range (I L)).foldl (Ca L) []
def qR(L:ai)(k:Nat):aF:=(List.range k).foldl (Ca L) []
def LV(L:ai)(k:Nat):qR L (k+1)=Ca L (qR L k) k:=by unfold qR;rw[rN,BN];rfl
def aAn{L:ai}{o:aF}{i:Nat}(h:x∈Ca L o i):x∈o\/x=i:=by
 unfold Ca at h;split at h
 .split at h
  .unfold BF at h;rcases iW.1 h with h|h
   .exact .inl (wu h)
   rcases dr.1 h with h|h
   .exact .inr h
   exact .inl (v7 h)
  exact .inl h
 exact .inl h
def QN{L:ai}:∀ {k x:Nat},x∈qR L k->x<k:=by
 intro k
 induction k with
 |zero=>intro x h;simp[qR]at h
 |succ k f=>
  intro x h;rw[LV]at h;rcases aAn h with h|h
  .have:=f h;omega
  omega
def sF(L:ai):∀k,I (qR L k)<=k:=by
 intro k
 induction k with
 |zero=>simp[qR]
 |succ k f=>
  rw[LV];unfold Ca;split
  .split
   .unfold BF;simp only[gT,dW,gX,kV];omega
   omega
  omega
def GF(f:Nat)(o:aF)(v:V)(aj:aN):Prop:=(o=[]/\v=.one (.p .nils))\/(o≠[]/\ ∃g,v=.one (.hsl f g 1 0 (I o))/\aj f=(g,some (.arr 3 1 (a_ o))))
def aAI{o:aF}{i bY:Nat}{aj:aN}(L:GF 4416576640 o (h 3) aj)(z:h 4=aH i)(D:h 5=aH bY)(O:bY<=I o)(hl:I o<=1000000)
  (y:∀A x,A 1=h 1->A 4=h 4->x 4416000000=aj 4416000000->GF 4416576640 (o.take bY++i::o.drop bY) (A 3) x->Q .normal A x):
  ch S .all IB Q h aj:=by
 rcases L with⟨rfl,f⟩|⟨L,g,f,M⟩
 .have H:bY=0:=by simpa using O
  subst H;simp only[go_sem,IB,f,z,D,af,ao];refine⟨ah,y _ _ ?_ ?_ ?_ (.inr ⟨aP,(aj 4416576640).1+1,?_,?_⟩)⟩;all_goals simp only[go_sem]
 have N:∀n:Nat,n<=1000001->n*8<=140737488355328:=λn Y=>J;by_cases H:bY=0
 .subst H;have j:List.take (I o) (a_ o)=a_ o:=fx aP;have F:=N (1+I o) J;simp only[go_sem,IB,f,z,D,M,j,F,af,ao];refine⟨ah,y _ _ ?_ ?_ ?_ (.inr ⟨aP,g+1,?_,?_⟩)⟩;all_goals simp only[go_sem]
  simp;omega
 have j:I (List.take bY (a_ o))=bY:=by simp;omega
 have m:List.take bY (List.take bY (a_ o))=List.take bY (a_ o):=by rw[GZ,Nat.min_self]
 have R:List.take (bY+1) (List.take bY (a_ o)++[[PV.int .i64 (i:Int)]])=List.take bY (a_ o)++[[PV.int .i64 (i:Int)]]:=fx (by simp;omega);have E:List.take (I o-bY) (List.drop bY (a_ o))=List.drop bY (a_ o):=fx aP;have v:I (List.drop bY (a_ o))=I o-bY:=aP;have T:I (List.take bY (a_ o)++[[PV.int .i64 (i:Int)]])=bY+1:=by simp;omega
 have F:=N bY J;have X:=N (bY+1) J;have u:=N (bY+1+(I o-bY)) J;have B:bY+(I o-bY)<=I o:=J;simp only[go_sem,IB,f,z,D,M,O,j,H,F,X,u,m,R,E,v,T,B,af,ao];refine⟨ah,y _ _ ?_ ?_ ?_ (.inr ⟨aP,g+1,?_,?_⟩)⟩;all_goals simp only[go_sem]
 .simp;omega
 simp
def avy{α:Type}{p:α->Bool}{l:List α}{bY:Nat}(f:bY<=I l)(g:∀j x,j<bY->l[j]?=some x->p x)(H:∀x,l[bY]?=some x->p x=false):I (l.takeWhile p)=bY:=by
 induction l generalizing bY with
 |nil=>simp at f |-;omega
 |cons a l m=>
  cases bY with
  |zero=>have:=H a rfl;simp[List.takeWhile,this]
  |succ bY=>have:=g 0 a J rfl;simp only[List.takeWhile,this,dW];rw[m (by simpa using f) (λj x n h=>g (j+1) x J (by simpa using h)) (λx h=>H x (by simpa using h))]
def ayK{L:ai}{f:Int}{o:aF}{i:Nat}{Y:aa}{aj:aN}(N:GF 4416576640 o (h 3) aj)(h1:h 1=.one (.bm 4416000000 1 0))(hB:aj 4416000000=(1,some (.var (qg f L))))(h4:h 4=aH i)(h5:h 5=aH 0)
  (xN:L[i]?=some Y) (aw:∀x∈o,x<I L) (hl:I o<=1000000)
  (hq:∀A z,A 1=h 1->A 4=h 4->z 4416000000=aj 4416000000->GF 4416576640 (BF L o i) (A 3) z->Q .normal A z):
  ch S .all (.loop MI) (oR 2 (v_ S .all IB Q)) h aj:=by
 have ji:=gb xN;refine dy (λk A z=>A 1=h 1/\A 4=h 4/\A 3=h 3/\z=aj/\A 5=aH k/\ ∀j x,j<k->o[j]?=some x->C5 L i x) 0 (I o) (cG _) ?_ ?_
 .exact⟨rfl,rfl,rfl,rfl,h5,λj x O=>absurd O (pG j)⟩
 rintro k A z hk ⟨v,u,m,rfl,H,hp⟩
 rw[h1]at v;rw[h4]at u;have fin:∀e:ct,e 1=A 1->e 4=A 4->e 3=A 3->e 5=A 5->(∀x,o[k]?=some x->C5 L i x=false)->ch S .all IB Q e z:=by
  intro e e1 e4 e3 e5 iH;have hK:=avy hk hp iH;have nX:GF 4416576640 o (e 3) z:=by rw[e3,m];exact N
  refine aAI (i:=i) (bY:=k) nX (by rw[e4,u]) (by rw[e5,H]) hk hl ?_;intro dK bh q1 q2 q3 q4;refine hq dK bh (by rw[q1,e1,v,h1]) (by rw[q2,e4,u,h4]) q3 ?_;unfold BF;rw[hK];exact q4
 by_cases T:k<I o
 .obtain⟨x,E⟩:=aT T;have sD:=aw x (bR E);obtain⟨lx,F⟩:=aT sD;have l7:=gb F;have Ez:=jG E;have aM:((k:Int)<(I o:Int)):=J;have w1:=cN (n:=k) J;have M:C5 L i x=Fk lx Y:=by simp[C5,F,xN]
  have R:=aww lx Y;rcases N with⟨rfl,_⟩|⟨N,g,D,Z⟩
  .simp at T
  rw[D]at m;cases X:Fk lx Y with
  |true=>
   rw[X]at R;simp only[go_sem,MI,h1,D,h4,v,m,u,H,hB,Z,aM,Ez,l7,ji,dD,aa.ps,T,w1,amr,dq R,af,ao];refine⟨ah,λj y O B=>?_⟩;rcases mQ.1 O with O|rfl
   .exact hp j y O B
   rw[E]at B;cases B;rw[M,X]
  |false=>rw[X]at R;simp only[go_sem,MI,v,m,u,H,hB,Z,aM,Ez,l7,ji,dD,aa.ps,T,amr,dq R,af,ao];refine⟨ah,fin _ ?_ ?_ ?_ ?_ (λy B=>by rw[E]at B;cases B;rw[M,X])⟩;all_goals simp only[go_sem,v,m,u,H]
 have:k=I o:=J;subst this;have dM:∀x,o[I o]?=some x->C5 L i x=false:=λx E=>by simp at E
 rcases N with⟨rfl,D⟩|⟨N,g,D,Z⟩
 .rw[D]at m;simp only[go_sem,MI,v,m,u,H,eR,af,ao];refine⟨ah,fin _ ?_ ?_ ?_ ?_ dM⟩;all_goals simp only[go_sem,v,m,u,H]
 rw[D]at m;simp only[go_sem,MI,v,m,u,H,eR,af,ao];refine⟨ah,fin _ ?_ ?_ ?_ ?_ dM⟩;all_goals simp only[go_sem,v,m,u,H]
def aw5(L:ai)(o:aF)(i:Nat):I (BF L o i)=I o+1:=by unfold BF;simp only[gT,dW,gX,kV];have:=(List.takeWhile_sublist (C5 L i) (l:=o)).length_le;omega
def Hz{aj:aN}{id len T:Nat}{E:q_}(h:aj id=(g,some (.arr T z E)))(hl:len=I E):iR aj (.one (.hsl id g z 0 len))=some (.one (.own T z E)):=by subst hl;simp only[iR,n_,lX,kS,ij,h,c3,and_self,if_true,lA];rfl
def Of(o:aF):nO:=if o=[]then .p .nils else .own 3 1 (a_ o)
def aea(f:Int)(L:ai)(hl:I L<=1000000):aK S 69 [c_ f L] (.one (Of (aE L))):=by
 refine bj aBc ?_;simp only[go_sem,afj,af,ao];refine dy (λk h aj=>h 1=.one (.bm 4416000000 1 0)/\aj 4416000000=(1,some (.var (qg f L)))/\h 4=aH k/\GF 4416576640 (qR L k) (h 3) aj) 0 (I L) (cG _) ?_ ?_
 .simp only[go_sem];exact⟨rfl,.inl ⟨rfl,rfl⟩⟩
 rintro k h aj hk ⟨v,y,u,j⟩
 have X:=sF L k;by_cases A:k<I L
 .obtain⟨l,z⟩:=aT A;have M:=gb z;have E:((k:Int)<(I L:Int)):=J;have D:=cN (n:=k) J;have ae:=LV L k;unfold Ca at ae;rw[z]at ae;cases hp:(l.kind==1)with
  |false=>
   have B:(l.kind !=1):=by simp[bne,hp]
   simp only[aa.aI,hp]at ae;have ae:qR L (k+1)=qR L k:=ae;simp only[go_sem,O3,Xk,v,y,u,M,dD,aa.ps,E,B,D,ae,A,af,ao];rcases j with⟨e,H⟩|⟨j,g,H,m⟩
   .exact .inl ⟨e,by simp only[go_sem,H]⟩
   exact .inr ⟨j,g,by simp only[go_sem,H],by simp only[go_sem,m]⟩
  |true=>
   have B:(l.kind !=1)=false:=by simp[bne,hp]
   simp only[aa.aI,hp]at ae;have ae:qR L (k+1)=BF L (qR L k) k:=ae;simp only[go_sem,O3,v,y,u,M,dD,aa.ps,E,B,af,ao];refine ayK (L:=L) (f:=f) (o:=qR L k) (i:=k) ?_ ?_ ?_ ?_ ?_ z (λx R=>Nat.lt_trans (QN R) A) J ?_
   .rcases j with⟨e,H⟩|⟨j,g,H,m⟩
    .exact .inl ⟨e,by simp only[go_sem,H]⟩
    exact .inr ⟨j,g,by simp only[go_sem,H],by simp only[go_sem,m]⟩
   .simp only[go_sem,v]
   .simp only[go_sem,y]
   .simp only[go_sem,u]
   .rfl
   intro Y Z Q N F O;simp only[go_sem,v,u,y]at Q N F;simp only[go_sem,Xk,Q,N,F,D,ae,A];rcases O with⟨e,H⟩|⟨j,g,H,m⟩
   .exact .inl ⟨e,by simp only[go_sem,H]⟩
   exact .inr ⟨j,g,by simp only[go_sem,H],by simp only[go_sem,m]⟩
 have:k=I L:=J;subst this;have T:aE L=qR L (I L):=rfl;rw[<-T]at j;rcases j with⟨e,H⟩|⟨j,g,H,m⟩
 .simp only[go_sem,O3,Y6,v,y,H,u,eR,Of,e,af,ao]
 simp only[go_sem,O3,Y6,v,y,H,u,eR,Of,j,af,ao];exact Hz m aP
def j8(L:ai)(ax:aF)(d:Nat):Nat:=
 if 2*I L<=d then
  if d%2=0 then eZ (I L) (ax.getD (((d-2*I L)/2+1)%I ax) 0) (!bN L (ax.getD (((d-2*I L)/2+1)%I ax) 0))
  else eZ (I L) (ax.getD ((d-2*I L)/2) 0) (bN L (ax.getD ((d-2*I L)/2) 0))
 else
  let f:=d%2==0
  let v:=if f then(d/2+1)%I L else d/2
  match L[v]? with
  |none=>0
  |some l=>if l.kind==2 then eZ (I L) (i_ L v) (f==(l.over==(l.sign==1)))
   else if bN L v==f then 2*I L+2*ax.idxOf v else 2*I L+2*((ax.idxOf v+I ax-1)%I ax)+1
def ane{L:ai}{i:Nat}(H:i<I L):i_ L i<I L:=by
 unfold i_;cases h:(List.range (I L)).find? (A5 L i)with
 |none=>exact H
 |some k=>
  have:=Cg h
  simpa using this
def Du{i:Nat}{f:Bool}(h:i<n):eZ n i f<2*n:=by unfold eZ;have:=fk (i+n-1) (show 0<n by omega);split<;>omega
def S_{L:ai}{ax:aF}{d:Nat}(kK:∀x∈ax,x<I L)(hp:∀v l,L[v]?=some l->(l.kind==2)=false->v∈ax)(y:d<2*I L+2*I ax):j8 L ax d<2*I L+2*I ax:=by
 have j:∀k,k<I ax->ax.getD k 0<I L:=λk H=>by obtain⟨x,m⟩:=aT H;rw[dC,m];exact kK x (bR m)
 unfold j8;by_cases h:2*I L<=d
 .rw[aD h];have n:=fk ((d-2*I L)/2+1) (show 0<I ax by omega);by_cases g:d%2=0
  .rw[aD g];exact Dx (Du (j _ n)) J
  rw[aC g];exact Dx (Du (j _ J)) J
 rw[aC h];have u:0<I L:=J;have f:(if(d%2==0)=true then(d/2+1)%I L else d/2)<I L:=by
  split
  .exact fk _ u
  omega
 simp only;generalize(if(d%2==0)=true then(d/2+1)%I L else d/2)=v at f;obtain⟨l,hl⟩:=aT f;rw[hl];simp only;by_cases H:(l.kind==2)
 .rw[aD H];exact Dx (Du (ane f)) J
 rw[aC H];have N:=hp v l hl (by simpa using H);have z:ax.idxOf v<I ax:=MB.2 N;have n:=fk (ax.idxOf v+I ax-1) (show 0<I ax by omega);split<;>omega
def aAU{ax:aF}:∀j,j<ax.idxOf v->ax[j]? ≠some v:=by
 induction ax with
 |nil=>intro j h;simp at h
 |cons a ax f=>
  intro j h e;rw[UK]at h;by_cases H:a=v
  .simp[H]at h
  have g:(a==v)=false:=by simpa using H
  rw[g]at h;cases j with
  |zero=>simp at e;exact H e
  |succ j=>exact f j (by simp at h;omega) (by simpa using e)
def ak3{ax:aF}(h:v∈ax):ax[ax.idxOf v]?=some v:=by have hl:ax.idxOf v<I ax:=MB.2 h;rw[ue hl,R0 hl]
def aye(f:Int)(L:ai)(ax:aF)(d:Nat)(hl:I L<=1000000)(jQ:I ax<=1000000)(kK:∀x∈ax,x<I L)(hp:∀v l,L[v]?=some l->(l.kind==2)=false->v∈ax)
  (hd:d<2*I L+2*I ax):aK S 70 [c_ f L,.one (.p (tU ax)),aH d] (ja (j8 L ax d)):=by
 have z:IntKind.i64.wrap (2*(I L:Int))=((2*I L:Nat):Int):=wrap_small (n:=2*I L) J;unfold j8;by_cases h:2*I L<=d
 .rw[aD h];refine bj agF ?_;have u:((2*I L:Nat):Int)<=(d:Int):=J;have m2:IntKind.i64.wrap ((d:Int)-((2*I L:Nat):Int))=((d-2*I L:Nat):Int):=by
   have:((d:Int)-((2*I L:Nat):Int))=((d-2*I L:Nat):Int):=J;rw[this];exact wrap_small J
  have M:=wrap_small (n:=(d-2*I L)/2) J;have hm:=fk ((d-2*I L)/2+1) (show 0<I ax by omega);have oY:¬((I ax:Int)=0):=J;by_cases h2:d%2=0
  .rw[aD h2];have D:=cN (n:=(d-2*I L)/2) J;have jA:(((d%2:Nat):Int)==0):=by simp[h2]
   have A:=tB ((d-2*I L)/2+1) (I ax);obtain⟨v,H⟩:=aT hm;have s0:ax.getD (((d-2*I L)/2+1)%I ax) 0=v:=by rw[dC,H];rfl
   rw[s0];have O:=kK v (bR H);have tL:=jG H;have j:=I_ f L v hl J;have B:=aam f L v (!bN L v) hl O;simp only[go_sem,DW,z,m2,M,D,A,u,jA,tL,oY,k_,fW,eH,zP,QR,dq j,dp B,af,ao];exact aA
  rw[aC h2];have jA:(((d%2:Nat):Int)==0)=false:=by simp;omega
  obtain⟨v,H⟩:=aT (L:=ax) (k:=(d-2*I L)/2) J;have s0:ax.getD ((d-2*I L)/2) 0=v:=by rw[dC,H];rfl
  rw[s0];have O:=kK v (bR H);have tL:=jG H;have j:=I_ f L v hl J;have B:=aam f L v (bN L v) hl O;simp only[go_sem,DW,z,m2,M,u,jA,tL,oY,k_,fW,eH,zP,QR,dq j,dp B,af,ao];exact aA
 rw[aC h];have u:¬(((2*I L:Nat):Int)<=(d:Int)):=J;have M:=wrap_small (n:=d/2) J;have N:¬((I L:Int)=0):=J;have oY:=fk (d/2+1) (show 0<I L by omega);have D:=cN (n:=d/2) J;have A:=tB (d/2+1) (I L);have body:∀v:Nat,v<I L->∀F:Bool,v=(if F then(d/2+1)%I L else d/2)->(d%2==0)=F->(((d%2:Nat):Int)==0)=F->aK S 70 [c_ f L,.one (.p (tU ax)),aH d] (ja ((match L[v]? with
   |none=>0
   |some l=>if l.kind==2 then eZ (I L) (i_ L v) (F==(l.over==(l.sign==1)))
    else if bN L v==F then 2*I L+2*ax.idxOf v else 2*I L+2*((ax.idxOf v+I ax-1)%I ax)+1:Nat):Int)):=by
  intro v H F g Bh T;obtain⟨l,rL⟩:=aT H;have y:=gb rL;rw[rL];simp only;refine bj agF ?_;cases E:(l.kind==2)with
  |true=>
   have Z:=aqh f L v hl H;have B:=aam f L (i_ L v) (F==(l.over==(l.sign==1))) hl (ane H);cases F with
   |true=>have g:v=(d/2+1)%I L:=g;rw[g]at y Z B |-;simp only[go_sem,DW,z,M,D,A,u,T,y,dD,aa.ps,N,E,k_,fW,eH,agx,QR,dp Z,dp B,af,ao];exact aA
   |false=>have g:v=d/2:=g;rw[g]at y Z B |-;simp only[go_sem,DW,z,M,D,A,u,T,y,dD,aa.ps,N,E,k_,fW,eH,agx,QR,dp Z,dp B,af,ao];exact aA
  |false=>
   have nK:=hp v l rL E;have JH:ax.idxOf v<I ax:=MB.2 nK;have m:=azl ax v (ax.idxOf v) jQ (ak3 nK) aAU;have j:=I_ f L v hl J;have Gh:¬((I ax:Int)=0):=J;have im:=fk (ax.idxOf v+I ax-1) (show 0<I ax by omega);have n1:=rB (a:=ax.idxOf v) J;have n2:=vc (a:=2*I L) (b:=2*ax.idxOf v) J;have X:=vc (a:=ax.idxOf v) (b:=I ax) J;have Y:=EF (a:=ax.idxOf v+I ax) J J;have R:=tB (ax.idxOf v+I ax-1) (I ax);have n6:=rB (a:=(ax.idxOf v+I ax-1)%I ax) J;have n7:=vc (a:=2*I L) (b:=2*((ax.idxOf v+I ax-1)%I ax)) J;have n8:=cN (n:=2*I L+2*((ax.idxOf v+I ax-1)%I ax)) J;cases F with
   |true=>
    have g:v=(d/2+1)%I L:=g;cases Q:bN L v with
    |true=>rw[Q]at j;subst g;simp only[go_sem,DW,z,M,D,A,u,T,y,dD,aa.ps,N,E,k_,fW,eH,IN,zP,dJ m,au j,n1,n2,X,Y,R,n6,n7,n8,Gh,af,ao]
    |false=>rw[Q]at j;subst g;simp only[go_sem,DW,z,M,D,A,u,T,y,dD,aa.ps,N,E,k_,fW,eH,IN,zP,dJ m,au j,n1,n2,X,Y,R,n6,n7,n8,Gh,af,ao]
   |false=>
    have g:v=d/2:=g;cases Q:bN L v with
    |true=>rw[Q]at j;subst g;simp only[go_sem,DW,z,M,D,A,u,T,y,dD,aa.ps,N,E,k_,fW,eH,IN,zP,dJ m,au j,n1,n2,X,Y,R,n6,n7,n8,Gh,af,ao]
    |false=>rw[Q]at j;subst g;simp only[go_sem,DW,z,M,D,A,u,T,y,dD,aa.ps,N,E,k_,fW,eH,IN,zP,dJ m,au j,n1,n2,X,Y,R,n6,n7,n8,Gh,af,ao]
 have O:(if(d%2==0)=true then(d/2+1)%I L else d/2)<I L:=by
  split
  .exact oY
  omega
 have:=body _ O (d%2==0) rfl rfl (by cases hq:(d%2==0)<;>simp at hq |- <;>omega);exact this
abbrev dB(o:dS):q_:=o.map λb:Bool=>[PV.bool b]
def qO{o:dS}{k:Nat}{b:Bool}(h:o[k]?=some b):(dB o)[k]?=some [.bool b]:=by simp[h]
def Jo(o:dS)(k:Nat)(b:Bool):(dB o).set k [.bool b]=dB (o.set k b):=by simp[wZ]
def g_(next:Nat->Nat):Nat->Nat->dS->aF×dS
 |0,_,seen=>([],seen)
 |k+1,x,seen=>if seen.getD x true then([],seen)else(x::(g_ next k (next x) (seen.set x true)).1,(g_ next k (next x) (seen.set x true)).2)
def zM(s:dS):Nat:=s.countP (λb=> !b)
def ND{s:dS}(h:s[x]?=some false):zM (s.set x true)+1=zM s:=by
 induction s generalizing x with
 |nil=>simp at h
 |cons b s f=>
  cases x with
  |zero=>simp at h;subst h;simp[zM]
  |succ x=>have:=f (x:=x) (by simpa using h);unfold zM at this |-;simp only[List.set_cons_succ,tA];omega
def azZ(next:Nat->Nat):∀(k x:Nat) (s:dS),(g_ next k x s).2.length=I s:=by
 intro k
 induction k with
 |zero=>intro x s;rfl
 |succ k f=>
  intro x s;unfold g_;split
  .rfl
  simp[f]
def wz(next:Nat->Nat)(f:List aF×dS)(d:Nat):List aF×dS:=if f.2.getD d true then f else(f.1++[(g_ next (I f.2+1) d f.2).1],(g_ next (I f.2+1) d f.2).2)
def fe(next:Nat->Nat)(N k:Nat):List aF×dS:=(List.range k).foldl (wz next) ([],List.replicate N false)
def fz(next:Nat->Nat)(N:Nat):List aF:=(fe next N N).1
def zO(next:Nat->Nat)(N k:Nat):fe next N (k+1)=wz next (fe next N k) k:=by unfold fe;rw[rN,BN];rfl
def Hj(next:Nat->Nat)(N:Nat):∀k,(fe next N k).2.length=N:=by
 intro k
 induction k with
 |zero=>simp[fe]
 |succ k f=>
  rw[zO];unfold wz;split
  .exact f
  simp[azZ,f]
def aCc(next:Nat->Nat)(N k:Nat)(j:1<=k)(m:1<=N):(fe next N k).1≠[]:=by
 induction k with
 |zero=>omega
 |succ k f=>
  rw[zO];by_cases h:k=0
  .subst h;have g:(fe next N 0)=([],List.replicate N false):=rfl;have H:(List.replicate N false).getD 0 true=false:=by
    obtain⟨n,rfl⟩:∃n,N=n+1:=⟨N-1,J⟩;rfl
   rw[g];unfold wz;simp only[H];simp
  have:=f J;unfold wz;split
  .exact this
  simp
def Kx(next:Nat->Nat)(N:Nat):∀k,(fe next N k).1.length<=k:=by
 intro k
 induction k with
 |zero=>simp[fe]
 |succ k f=>
  rw[zO];unfold wz;split
  .omega
  simp;exact f
def Mf(s:dS):zM s<=I s:=Nr
def aAR{L:ai}{ax:aF}(hl:I L<=1000000)(jQ:I ax<=1000000)(kK:∀x∈ax,x<I L)(hp:∀v l,L[v]?=some l->(l.kind==2)=false->v∈ax):
  ∀(F x:Nat) (dL:dS) (w:aF) (h:ct) (aj:aN),h 1=.one (.bm 2560000000 1 0)->aj 2560000000=(1,some (.var (qg f L)))->
   h 4=.one (.hsl 2560128064 1 1 0 (I ax))->aj 2560128064=(1,some (.arr 3 1 (a_ ax)))->h 5=.one (.hsl 2560192512 1 1 0 (I dL))->aj 2560192512=(1,some (.arr 4 1 (dB dL)))->
   GF 2560832192 w (h 7) aj->h 8=aH x->x<I dL->I dL=2*I L+2*I ax->zM dL<F->I w+zM dL<=5000000->
   (∀A j,A 1=h 1->A 3=h 3->A 4=h 4->A 5=h 5->A 6=h 6->j 2560000000=aj 2560000000->j 2560128064=aj 2560128064->j 2560896192=aj 2560896192->j 2560896128=aj 2560896128->
    j 2560192512=(1,some (.arr 4 1 (dB (g_ (j8 L ax) F x dL).2)))->GF 2560832192 (w++(g_ (j8 L ax) F x dL).1) (A 7) j->Q .normal A j)->
   ch S .all (.loop NX) (oR 2 Q) h aj:=by
 intro F
 induction F with
 |zero=>intro x dL w h aj _ _ _ _ _ _ _ _ _ _ ab;omega
 |succ F ih=>
  intro x dL w h aj y E u z m D ho h8 B hsl hu hw H;obtain⟨b,R⟩:=aT B;have ng:=qO R;have CM:dL.getD x true=b:=by rw[dC,R];rfl
  unfold g_ at H;rw[CM]at H;refine sZ ?_;cases b with
  |true=>
   simp only[go_sem,NX,m,D,h8,B,ng,af,ao];refine H _ _ ?_ ?_ ?_ ?_ ?_ rfl rfl rfl rfl D ?_;all_goals simp only[go_sem]
   exact ho
  |false=>
   have Ij:=ND R;have pt:=aye f L ax x hl jQ kK hp J;have uA:=S_ (d:=x) kK hp J;have ir:=Jo dL x true;have nY:∀n:Nat,n<=5000001->n*8<=140737488355328:=λn hn=>J;have JT:List.take (I ax) (a_ ax)=a_ ax:=fx aP;rcases ho with⟨rfl,Z⟩|⟨T2,g,Z,hC⟩
   .simp only[go_sem,NX,y,E,u,z,m,D,Z,h8,B,ng,ir,JT,akV,dJ pt,af,ao];refine ih (j8 L ax x) (dL.set x true) [x] _ _ ?_ ?_ ?_ ?_ ?_ ?_ ?_ ?_ (by simpa [hsl]using uA) (by simpa using hsl) J (by simp;omega) ?_
    .simp only[go_sem,y]
    .simp only[go_sem,E]
    .simp only[go_sem,u]
    .simp only[go_sem,z]
    .simp only[go_sem,m,jo]
    .simp only[go_sem]
    .simp only[go_sem];exact .inr ⟨aP,_,rfl,rfl⟩
    .simp only[go_sem]
    intro A j Y q3 q4 q5 X M b2 T b4 N O;refine H A j ?_ ?_ ?_ ?_ ?_ ?_ ?_ ?_ ?_ N ?_
    .rw[Y];simp only[go_sem]
    .rw[q3];simp only[go_sem]
    .rw[q4];simp only[go_sem]
    .rw[q5];simp only[go_sem]
    .rw[X];simp only[go_sem]
    .rw[M];simp only[go_sem]
    .rw[b2];simp only[go_sem]
    .rw[T];simp only[go_sem]
    .rw[b4];simp only[go_sem]
    simpa using O
   have vY:List.take (I w) (a_ w)=a_ w:=fx aP;have fE:=nY (I w+1) J;simp only[go_sem,NX,y,E,u,z,m,D,Z,h8,B,ng,ir,JT,akV,dJ pt,hC,vY,fE,af,ao];refine ih (j8 L ax x) (dL.set x true) (w++[x]) _ _ ?_ ?_ ?_ ?_ ?_ ?_ ?_ ?_ (by simpa [hsl]using uA) (by simpa using hsl) J (by simp;omega) ?_
   .simp only[go_sem,y]
   .simp only[go_sem,E]
   .simp only[go_sem,u]
   .simp only[go_sem,z]
   .simp only[go_sem,m,jo]
   .simp only[go_sem]
   .simp only[go_sem];exact .inr ⟨aP,g+1,aP,by simp[cD]⟩
   .simp only[go_sem]
   intro A j Y q3 q4 q5 X M b2 T b4 N O;refine H A j ?_ ?_ ?_ ?_ ?_ ?_ ?_ ?_ ?_ N ?_
   .rw[Y];simp only[go_sem]
   .rw[q3];simp only[go_sem]
   .rw[q4];simp only[go_sem]
   .rw[q5];simp only[go_sem]
   .rw[X];simp only[go_sem]
   .rw[M];simp only[go_sem]
   .rw[b2];simp only[go_sem]
   .rw[T];simp only[go_sem]
   .rw[b4];simp only[go_sem]
   simpa using O
def aCK(f:Nat)(o:List aF)(v:V)(aj:aN):Prop:=(o=[]/\v=.one (.p .nils))\/(o≠[]/\ ∃g,v=.one (.hsl f g 1 0 (I o))/\aj f=(g,some (.arr 109 1 (o.map λw=>[tU w]))))
def aeY(f:Int)(L:ai)(hl:I L<=1000000)(B:aE L≠[])(hp:∀v l,L[v]?=some l->(l.kind==2)=false->v∈aE L):
  aK S 40 [c_ f L] (.one (.own 109 1 ((fz (j8 L (aE L)) (2*I L+2*I (aE L))).map λw=>[tU w]))):=by
 have D:=aea f L hl;have kK:∀x∈aE L,x<I L:=λx ac=>QN ac;have jQ:I (aE L)<=I L:=sF L (I L);unfold Of at D;rw[aC B]at D;generalize aE L=ax at B hp D kK jQ;have m1:=rB (a:=I L) J;have m2:=rB (a:=I ax) J;have m3:=vc (a:=2*I L) (b:=2*I ax) J;have jY:I (a_ ax)=I ax:=aP;have nY:2*I L+2*I ax<=140737488355328:=J;have yQ:List.replicate (2*I L+2*I ax) [PV.bool false]=dB (List.replicate (2*I L+2*I ax) false):=aP
 refine bj aoy ?_;have Y:∀(aj:aN),fg aj [] 2560128064 ((RV.one (.own 3 1 (a_ ax))).fR (S.lone 2560128064))=some (.one (.hsl 2560128064 ((aj 2560128064).1+1) 1 0 (I ax)),[(2560128064,((aj 2560128064).1+1,some (.arr 3 1 (a_ ax))))]):=by intro aj;have ik:S.lone 2560128064=false:=ah;rw[ik];simp only[RV.fR,fg,true_or,if_true,jq,mz,m_,nk,fC,vO,rF,cY,rT]
 simp only[go_sem,al6,ak4,aU D (Y _),m1,m2,m3,nY,yQ,af,ao];generalize hN:2*I L+2*I ax=N at nY;refine dy (λk h aj=>h 1=.one (.bm 2560000000 1 0)/\aj 2560000000=(1,some (.var (qg f L)))/\h 4=.one (.hsl 2560128064 1 1 0 (I ax))/\aj 2560128064=(1,some (.arr 3 1 (a_ ax)))/\
   h 5=.one (.hsl 2560192512 1 1 0 N)/\aj 2560192512=(1,some (.arr 4 1 (dB (fe (j8 L ax) N k).2)))/\h 6=aH k/\aCK 2560896192 (fe (j8 L ax) N k).1 (h 3) aj) 0 N (cG _) ?_ ?_
 .simp only[go_sem];exact⟨rfl,rfl,.inl ⟨rfl,rfl⟩⟩
 rintro k h aj hk ⟨M,X,A,R,y,z,T,j⟩
 have H:=Hj (j8 L ax) N k;have Ib:=Kx (j8 L ax) N k;by_cases F:k<N
 .have aM:((k:Int)<(N:Int)):=J;have w1:=cN (n:=k) J;have ae:=zO (j8 L ax) N k;generalize cV:fe (j8 L ax) N k=st at H ae j z Ib;obtain⟨out,dL⟩:=st;simp only at H j z Ib;obtain⟨b,hb⟩:=aT (L:=dL) (k:=k) J;have ng:=qO hb;unfold wz at ae;have CM:dL.getD k true=b:=by rw[dC,hb];rfl
  simp only[CM]at ae;cases b with
  |true=>have ae:fe (j8 L ax) N (k+1)=(out,dL):=ae;simp only[go_sem,Ud,Uc,M,X,A,R,y,z,T,F,aM,ng,w1,ae,af,ao];exact j
  |false=>
   have ae:fe (j8 L ax) N (k+1)=(out++[(g_ (j8 L ax) (N+1) k dL).1],(g_ (j8 L ax) (N+1) k dL).2):=by rw[ae,H];rfl
   have ab:=Mf dL;simp only[go_sem,Ud,M,X,A,R,y,z,T,F,aM,ng,af,ao];refine aAR (f:=f) hl J kK hp (N+1) k dL [] _ _ ?_ ?_ ?_ ?_ ?_ ?_ ?_ ?_ J J J (by simp;omega) ?_
   .simp only[go_sem,M]
   .simp only[go_sem,X]
   .simp only[go_sem,A]
   .simp only[go_sem,R]
   .simp only[go_sem,y,H]
   .simp only[go_sem,z]
   .exact .inl ⟨rfl,by simp only[go_sem]⟩
   .simp only[go_sem]
   intro aL aq q1 Q q4 Z q6 b1 b2 b3 b4 E b6;simp only[go_sem,M,A,y,T]at q1 Q q4 Z q6;simp only[go_sem,X,R]at b1 b2 b3 b4;have T2:(g_ (j8 L ax) (N+1) k dL).1≠[]:=by unfold g_;rw[CM];simp
   rw[iZ]at b6;rcases b6 with⟨e,_⟩|⟨_,g,O,u⟩
   .exact(T2 e).elim
   generalize g_ (j8 L ax) (N+1) k dL=wf at ae T2 E O u;obtain⟨w,jM⟩:=wf;simp only at ae T2 E O u;have vY:List.take (I w) (a_ w)=a_ w:=fx aP;rcases j with⟨rfl,m⟩|⟨j,go,m,hO⟩
   .rw[m]at Q;simp only[go_sem,ab4,Uc,q1,Q,q4,Z,q6,b1,b2,E,O,u,vY,w1,ae,F,y8,dr,af,ao];exact .inr ⟨aP,_,rfl,by simp[cD]⟩
   rw[m]at Q;have Ii:List.take (I out) (out.map λw=>[tU w])=out.map λw=>[tU w]:=fx aP;have fE:(I out+1)*24<=140737488355328:=J;simp only[go_sem,ab4,Uc,q1,Q,q4,Z,q6,b1,b2,b3,E,O,u,hO,vY,Ii,fE,w1,ae,F,y8,dr,af,ao];exact .inr ⟨aP,go+1,aP,by simp[cD]⟩
 have:k=N:=J;subst this;have he:fz (j8 L ax) k=(fe (j8 L ax) k k).1:=rfl;rw[<-he]at j;rcases j with⟨e,m⟩|⟨j,g,m,u⟩
 .exact(aCc (j8 L ax) k k (by have:=jH.2 B;omega) (by have:=jH.2 B;omega) e).elim
 simp only[go_sem,Ud,aeg,m,y,T,eR,af,ao];exact Hz u aP
abbrev NT(l:aa):eE:=[.p (.int .i64 l.kind),.p (.int .i64 l.gate),.p (.int .i64 l.ay),.p (.int .i64 l.id),.p (.int .i64 l.sign),.p (.bool l.over)]
def lk(l o:aa):Bool:=(o.kind==l.kind&&o.gate==l.gate)&&o.ay==l.ay
def kE(l o:aa):Bool:=((o.kind==l.kind&&o.id==l.id)&&o.sign==l.sign)&& !(o.over==l.over)
def x_(f:Int)(L:ai)(l:aa):Bool:= !(((((((l.id !=0||l.sign !=0)||l.over)||decide (l.gate<0))||decide (f<l.gate))||decide (l.ay<1))||decide ((an (pQ l.gate) L:Int)<l.ay))||(((an (lk l) L:Nat):Int)!=1))
def oZ(L:ai)(l:aa):Bool:= !((((((l.gate !=0||l.ay !=0)||(l.sign !=1&&l.sign != -1))||decide (l.id<1))||decide (((an aa.aB L/2:Nat):Int)<l.id))||(((an (kE l) L:Nat):Int)!=1))||(((an (oI l.id) L:Nat):Int)!=2))
def gU(f:Int)(L:ai)(l:aa):Bool:=if l.kind==1 then x_ f L l else if l.kind==2 then oZ L l else false
def asI{f:Int}{L:ai}{l:aa}{i:Nat}{aj:aN}(hl:I L<=1000000)(h1:h 1=.one (.bm 2496000000 1 0))(hB:aj 2496000000=(1,some (.var (qg f L))))(h3:h 3=aH i)(h4:h 4=.one (.bm 2496256320 g 0))(hL:aj 2496256320=(g,some (.var (NT l))))
  (h5:h 5=aH 0) (h6:h 6=aH 0) (h7:h 7=aH 0)
  (hq:∀F Z,F 1=h 1->F 3=h 3->F 4=h 4->Z 2496000000=aj 2496000000->Z 2496256320=aj 2496256320->F 5=aH (an (lk l) L)->F 6=aH (an (kE l) L)->Q .normal F Z):
  ch S .all (.loop vz) (oR 2 Q) h aj:=by
 refine dy (λk F Z=>F 1=.one (.bm 2496000000 1 0)/\Z 2496000000=(1,some (.var (qg f L)))/\F 3=aH i/\F 4=.one (.bm 2496256320 g 0)/\Z 2496256320=(g,some (.var (NT l)))/\
   F 5=aH (an (lk l) (L.take k))/\F 6=aH (an (kE l) (L.take k))/\F 7=aH k) 0 (I L) (cG _) ?_ ?_
 .exact⟨h1,hB,h3,h4,hL,h5,h6,h7⟩
 rintro k F Z hk ⟨g1,B,m,N,d_,D,z,M⟩
 by_cases A:k<I L
 .obtain⟨o,H⟩:=aT A;have X:=gb H;have T:((k:Int)<(I L:Int)):=J;have b5:=BX (lk l) L k;have b6:=BX (kE l) L k;have O:=cN (n:=k) J;have Y:=cN (n:=an (lk l) (L.take k)) J;have R:=cN (n:=an (kE l) (L.take k)) J;cases E:(o.kind==l.kind)with
  |true=>
   cases u:(o.gate==l.gate)with
   |true=>
    cases x:(o.ay==l.ay)with
    |true=>
     cases j:(o.id==l.id)with
     |true=>
      cases v:(o.sign==l.sign)with
      |true=>
       cases y:(o.over==l.over)with
       |true=>have eT:=uf (p:=lk l) H (by simp only[lk,E,u,x,j,v,y];rfl);have fB:=mH (p:=kE l) H (by simp only[kE,E,u,x,j,v,y];rfl);simp only[go_sem,vz,g1,B,m,N,d_,D,z,M,X,dD,aa.ps,T,O,Y,R,E,u,x,j,v,y,eT,fB,af,ao];first|exact A|exact⟨A,rfl⟩|exact⟨A,rfl,rfl⟩
       |false=>have eT:=uf (p:=lk l) H (by simp only[lk,E,u,x,j,v,y];rfl);have fB:=uf (p:=kE l) H (by simp only[kE,E,u,x,j,v,y];rfl);simp only[go_sem,vz,g1,B,m,N,d_,D,z,M,X,dD,aa.ps,T,O,Y,R,E,u,x,j,v,y,eT,fB,af,ao];first|exact A|exact⟨A,rfl⟩|exact⟨A,rfl,rfl⟩
      |false=>have eT:=uf (p:=lk l) H (by simp only[lk,E,u,x,j,v];rfl);have fB:=mH (p:=kE l) H (by simp only[kE,E,u,x,j,v];rfl);simp only[go_sem,vz,g1,B,m,N,d_,D,z,M,X,dD,aa.ps,T,O,Y,R,E,u,x,j,v,eT,fB,af,ao];first|exact A|exact⟨A,rfl⟩|exact⟨A,rfl,rfl⟩
     |false=>have eT:=uf (p:=lk l) H (by simp only[lk,E,u,x,j];rfl);have fB:=mH (p:=kE l) H (by simp only[kE,E,u,x,j];rfl);simp only[go_sem,vz,g1,B,m,N,d_,D,z,M,X,dD,aa.ps,T,O,Y,R,E,u,x,j,eT,fB,af,ao];first|exact A|exact⟨A,rfl⟩|exact⟨A,rfl,rfl⟩
    |false=>
     cases j:(o.id==l.id)with
     |true=>
      cases v:(o.sign==l.sign)with
      |true=>
       cases y:(o.over==l.over)with
       |true=>have eT:=mH (p:=lk l) H (by simp only[lk,E,u,x,j,v,y];rfl);have fB:=mH (p:=kE l) H (by simp only[kE,E,u,x,j,v,y];rfl);simp only[go_sem,vz,g1,B,m,N,d_,D,z,M,X,dD,aa.ps,T,O,Y,R,E,u,x,j,v,y,eT,fB,af,ao];first|exact A|exact⟨A,rfl⟩|exact⟨A,rfl,rfl⟩
       |false=>have eT:=mH (p:=lk l) H (by simp only[lk,E,u,x,j,v,y];rfl);have fB:=uf (p:=kE l) H (by simp only[kE,E,u,x,j,v,y];rfl);simp only[go_sem,vz,g1,B,m,N,d_,D,z,M,X,dD,aa.ps,T,O,Y,R,E,u,x,j,v,y,eT,fB,af,ao];first|exact A|exact⟨A,rfl⟩|exact⟨A,rfl,rfl⟩
      |false=>have eT:=mH (p:=lk l) H (by simp only[lk,E,u,x,j,v];rfl);have fB:=mH (p:=kE l) H (by simp only[kE,E,u,x,j,v];rfl);simp only[go_sem,vz,g1,B,m,N,d_,D,z,M,X,dD,aa.ps,T,O,Y,R,E,u,x,j,v,eT,fB,af,ao];first|exact A|exact⟨A,rfl⟩|exact⟨A,rfl,rfl⟩
     |false=>have eT:=mH (p:=lk l) H (by simp only[lk,E,u,x,j];rfl);have fB:=mH (p:=kE l) H (by simp only[kE,E,u,x,j];rfl);simp only[go_sem,vz,g1,B,m,N,d_,D,z,M,X,dD,aa.ps,T,O,Y,R,E,u,x,j,eT,fB,af,ao];first|exact A|exact⟨A,rfl⟩|exact⟨A,rfl,rfl⟩
   |false=>
    cases j:(o.id==l.id)with
    |true=>
     cases v:(o.sign==l.sign)with
     |true=>
      cases y:(o.over==l.over)with
      |true=>have eT:=mH (p:=lk l) H (by simp only[lk,E,u,j,v,y];rfl);have fB:=mH (p:=kE l) H (by simp only[kE,E,u,j,v,y];rfl);simp only[go_sem,vz,g1,B,m,N,d_,D,z,M,X,dD,aa.ps,T,O,Y,R,E,u,j,v,y,eT,fB,af,ao];first|exact A|exact⟨A,rfl⟩|exact⟨A,rfl,rfl⟩
      |false=>have eT:=mH (p:=lk l) H (by simp only[lk,E,u,j,v,y];rfl);have fB:=uf (p:=kE l) H (by simp only[kE,E,u,j,v,y];rfl);simp only[go_sem,vz,g1,B,m,N,d_,D,z,M,X,dD,aa.ps,T,O,Y,R,E,u,j,v,y,eT,fB,af,ao];first|exact A|exact⟨A,rfl⟩|exact⟨A,rfl,rfl⟩
     |false=>have eT:=mH (p:=lk l) H (by simp only[lk,E,u,j,v];rfl);have fB:=mH (p:=kE l) H (by simp only[kE,E,u,j,v];rfl);simp only[go_sem,vz,g1,B,m,N,d_,D,z,M,X,dD,aa.ps,T,O,Y,R,E,u,j,v,eT,fB,af,ao];first|exact A|exact⟨A,rfl⟩|exact⟨A,rfl,rfl⟩
    |false=>have eT:=mH (p:=lk l) H (by simp only[lk,E,u,j];rfl);have fB:=mH (p:=kE l) H (by simp only[kE,E,u,j];rfl);simp only[go_sem,vz,g1,B,m,N,d_,D,z,M,X,dD,aa.ps,T,O,Y,R,E,u,j,eT,fB,af,ao];first|exact A|exact⟨A,rfl⟩|exact⟨A,rfl,rfl⟩
  |false=>have eT:=mH (p:=lk l) H (by simp only[lk,E];rfl);have fB:=mH (p:=kE l) H (by simp only[kE,E];rfl);simp only[go_sem,vz,g1,B,m,N,d_,D,z,M,X,dD,aa.ps,T,O,Y,R,E,eT,fB,af,ao];first|exact A|exact⟨A,rfl⟩|exact⟨A,rfl,rfl⟩
 have:k=I L:=J;subst this;rw[lA]at D z;simp only[go_sem,vz,g1,B,M,eR,af,ao];refine hq _ _ ?_ ?_ ?_ ?_ ?_ ?_ ?_;all_goals simp only[go_sem,g1,B,m,N,d_,D,z,h1,hB,h3,h4,hL]
def aox{f:Int}{L:ai}{l:aa}{i:Nat}{aj:aN}(hl:I L<=1000000)(R:h 1=.one (.bm 2496000000 1 0))(hB:aj 2496000000=(1,some (.var (qg f L))))(X:h 3=aH i)(M:h 4=.one (.bm 2496256320 g 0))(O:aj 2496256320=(g,some (.var (NT l))))
  (T:h 5=aH (an (lk l) L)) (Z:h 6=aH (an (kE l) L))
  (hq:gU f L l->∀aL,aL 1=h 1->aL 3=h 3->Q .normal aL aj) (hr:gU f L l=false->∀aL,aL 2=.one (.p (.bool false))->Q .ret aL aj):
  ch S .all pE Q h aj:=by
 have u:=afk f L hl l.gate;have x:=adF f L hl;have m:=avb f L hl l.id;have Md:=o7 aa.aB L;have Y:=wrap_small (n:=an aa.aB L/2) J;cases j:(l.kind==1)with
 |true=>
  cases v:(l.id !=0)with
  |true=>
   have A:gU f L l=false:=by simp only[gU,j,x_,v];rfl
   simp only[go_sem,pE,R,hB,X,M,O,T,Z,pX,mE,rf,dp u,dp x,dp m,fW,eH,Y,j,v,af,ao];refine⟨ah,hr A _ ?_⟩;simp only[go_sem]
  |false=>
   cases y:(l.sign !=0)with
   |true=>
    have A:gU f L l=false:=by simp only[gU,j,x_,v,y];rfl
    simp only[go_sem,pE,R,hB,X,M,O,T,Z,pX,mE,rf,dp u,dp x,dp m,fW,eH,Y,j,v,y,af,ao];refine⟨ah,hr A _ ?_⟩;simp only[go_sem]
   |false=>
    cases z:(l.over)with
    |true=>
     have A:gU f L l=false:=by simp only[gU,j,x_,v,y,z];rfl
     simp only[go_sem,pE,R,hB,X,M,O,T,Z,pX,mE,rf,dp u,dp x,dp m,fW,eH,Y,j,v,y,z,af,ao];refine⟨ah,hr A _ ?_⟩;simp only[go_sem]
    |false=>
     cases F:(decide (l.gate<0))with
     |true=>
      have B9:(l.gate<0):=pJ F;have A:gU f L l=false:=by simp only[gU,j,x_,v,y,z,F];rfl
      simp only[go_sem,pE,R,hB,X,M,O,T,Z,pX,mE,rf,dp u,dp x,dp m,fW,eH,Y,j,v,y,z,B9,af,ao];refine⟨ah,hr A _ ?_⟩;simp only[go_sem]
     |false=>
      cases B:(decide (f<l.gate))with
      |true=>
       have B9:¬(l.gate<0):=iY F;have N:(f<l.gate):=pJ B;have A:gU f L l=false:=by simp only[gU,j,x_,v,y,z,F,B];rfl
       simp only[go_sem,pE,R,hB,X,M,O,T,Z,pX,mE,rf,dp u,dp x,dp m,fW,eH,Y,j,v,y,z,B9,N,af,ao];refine⟨ah,hr A _ ?_⟩;simp only[go_sem]
      |false=>
       cases E:(decide (l.ay<1))with
       |true=>
        have B9:¬(l.gate<0):=iY F;have N:¬(f<l.gate):=iY B;have H:(l.ay<1):=pJ E;have A:gU f L l=false:=by simp only[gU,j,x_,v,y,z,F,B,E];rfl
        simp only[go_sem,pE,R,hB,X,M,O,T,Z,pX,mE,rf,dp u,dp x,dp m,fW,eH,Y,j,v,y,z,B9,N,H,af,ao];refine⟨ah,hr A _ ?_⟩;simp only[go_sem]
       |false=>
        cases a7:(decide ((an (pQ l.gate) L:Int)<l.ay))with
        |true=>
         have B9:¬(l.gate<0):=iY F;have N:¬(f<l.gate):=iY B;have H:¬(l.ay<1):=iY E;have N9:((an (pQ l.gate) L:Int)<l.ay):=pJ a7;have A:gU f L l=false:=by simp only[gU,j,x_,v,y,z,F,B,E,a7];rfl
         simp only[go_sem,pE,R,hB,X,M,O,T,Z,pX,mE,rf,dp u,dp x,dp m,fW,eH,Y,j,v,y,z,B9,N,H,N9,af,ao];refine⟨ah,hr A _ ?_⟩;simp only[go_sem]
        |false=>
         cases a8:(((an (lk l) L:Nat):Int)!=1)with
         |true=>
          have B9:¬(l.gate<0):=iY F;have N:¬(f<l.gate):=iY B;have H:¬(l.ay<1):=iY E;have N9:¬((an (pQ l.gate) L:Int)<l.ay):=iY a7;have A:gU f L l=false:=by simp only[gU,j,x_,v,y,z,F,B,E,a7,a8];rfl
          simp only[go_sem,pE,R,hB,X,M,O,T,Z,pX,mE,rf,dp u,dp x,dp m,fW,eH,Y,j,v,y,z,B9,N,H,N9,a8,af,ao];refine⟨ah,hr A _ ?_⟩;simp only[go_sem]
         |false=>
          have B9:¬(l.gate<0):=iY F;have N:¬(f<l.gate):=iY B;have H:¬(l.ay<1):=iY E;have N9:¬((an (pQ l.gate) L:Int)<l.ay):=iY a7;have A:gU f L l:=by simp only[gU,j,x_,v,y,z,F,B,E,a7,a8];rfl
          simp only[go_sem,pE,R,hB,X,M,O,T,Z,pX,mE,rf,dp u,dp x,dp m,fW,eH,Y,j,v,y,z,B9,N,H,N9,a8,af,ao];refine⟨ah,hq A _ ?_ ?_⟩;all_goals simp only[go_sem]
 |false=>
  cases D:(l.kind==2)with
  |true=>
   cases v:(l.gate !=0)with
   |true=>
    have A:gU f L l=false:=by simp only[gU,j,D,oZ,v];rfl
    simp only[go_sem,pE,R,hB,X,M,O,T,Z,pX,mE,rf,dp u,dp x,dp m,fW,eH,Y,j,D,v,af,ao];refine⟨ah,hr A _ ?_⟩;simp only[go_sem]
   |false=>
    cases y:(l.ay !=0)with
    |true=>
     have A:gU f L l=false:=by simp only[gU,j,D,oZ,v,y];rfl
     simp only[go_sem,pE,R,hB,X,M,O,T,Z,pX,mE,rf,dp u,dp x,dp m,fW,eH,Y,j,D,v,y,af,ao];refine⟨ah,hr A _ ?_⟩;simp only[go_sem]
    |false=>
     cases z:(l.sign !=1)with
     |true=>
      cases F:(l.sign != -1)with
      |true=>
       have A:gU f L l=false:=by simp only[gU,j,D,oZ,v,y,z,F];rfl
       simp only[go_sem,pE,R,hB,X,M,O,T,Z,pX,mE,rf,dp u,dp x,dp m,fW,eH,Y,j,D,v,y,z,F,af,ao];refine⟨ah,hr A _ ?_⟩;simp only[go_sem]
      |false=>
       cases B:(decide (l.id<1))with
       |true=>
        have N:(l.id<1):=pJ B;have A:gU f L l=false:=by simp only[gU,j,D,oZ,v,y,z,F,B];rfl
        simp only[go_sem,pE,R,hB,X,M,O,T,Z,pX,mE,rf,dp u,dp x,dp m,fW,eH,Y,j,D,v,y,z,F,N,af,ao];refine⟨ah,hr A _ ?_⟩;simp only[go_sem]
       |false=>
        cases E:(decide (((an aa.aB L/2:Nat):Int)<l.id))with
        |true=>
         have N:¬(l.id<1):=iY B;have H:(((an aa.aB L/2:Nat):Int)<l.id):=pJ E;have A:gU f L l=false:=by simp only[gU,j,D,oZ,v,y,z,F,B,E];rfl
         simp only[go_sem,pE,R,hB,X,M,O,T,Z,pX,mE,rf,dp u,dp x,dp m,fW,eH,Y,j,D,v,y,z,F,N,H,af,ao];refine⟨ah,hr A _ ?_⟩;simp only[go_sem]
        |false=>
         cases a7:(((an (kE l) L:Nat):Int)!=1)with
         |true=>
          have N:¬(l.id<1):=iY B;have H:¬(((an aa.aB L/2:Nat):Int)<l.id):=iY E;have A:gU f L l=false:=by simp only[gU,j,D,oZ,v,y,z,F,B,E,a7];rfl
          simp only[go_sem,pE,R,hB,X,M,O,T,Z,pX,mE,rf,dp u,dp x,dp m,fW,eH,Y,j,D,v,y,z,F,N,H,a7,af,ao];refine⟨ah,hr A _ ?_⟩;simp only[go_sem]
         |false=>
          cases a8:(((an (oI l.id) L:Nat):Int)!=2)with
          |true=>
           have N:¬(l.id<1):=iY B;have H:¬(((an aa.aB L/2:Nat):Int)<l.id):=iY E;have A:gU f L l=false:=by simp only[gU,j,D,oZ,v,y,z,F,B,E,a7,a8];rfl
           simp only[go_sem,pE,R,hB,X,M,O,T,Z,pX,mE,rf,dp u,dp x,dp m,fW,eH,Y,j,D,v,y,z,F,N,H,a7,a8,af,ao];refine⟨ah,hr A _ ?_⟩;simp only[go_sem]
          |false=>
           have N:¬(l.id<1):=iY B;have H:¬(((an aa.aB L/2:Nat):Int)<l.id):=iY E;have A:gU f L l:=by simp only[gU,j,D,oZ,v,y,z,F,B,E,a7,a8];rfl
           simp only[go_sem,pE,R,hB,X,M,O,T,Z,pX,mE,rf,dp u,dp x,dp m,fW,eH,Y,j,D,v,y,z,F,N,H,a7,a8,af,ao];refine⟨ah,hq A _ ?_ ?_⟩;all_goals simp only[go_sem]
     |false=>
      cases B:(decide (l.id<1))with
      |true=>
       have N:(l.id<1):=pJ B;have A:gU f L l=false:=by simp only[gU,j,D,oZ,v,y,z,B];rfl
       simp only[go_sem,pE,R,hB,X,M,O,T,Z,pX,mE,rf,dp u,dp x,dp m,fW,eH,Y,j,D,v,y,z,N,af,ao];refine⟨ah,hr A _ ?_⟩;simp only[go_sem]
      |false=>
       cases E:(decide (((an aa.aB L/2:Nat):Int)<l.id))with
       |true=>
        have N:¬(l.id<1):=iY B;have H:(((an aa.aB L/2:Nat):Int)<l.id):=pJ E;have A:gU f L l=false:=by simp only[gU,j,D,oZ,v,y,z,B,E];rfl
        simp only[go_sem,pE,R,hB,X,M,O,T,Z,pX,mE,rf,dp u,dp x,dp m,fW,eH,Y,j,D,v,y,z,N,H,af,ao];refine⟨ah,hr A _ ?_⟩;simp only[go_sem]
       |false=>
        cases a7:(((an (kE l) L:Nat):Int)!=1)with
        |true=>
         have N:¬(l.id<1):=iY B;have H:¬(((an aa.aB L/2:Nat):Int)<l.id):=iY E;have A:gU f L l=false:=by simp only[gU,j,D,oZ,v,y,z,B,E,a7];rfl
         simp only[go_sem,pE,R,hB,X,M,O,T,Z,pX,mE,rf,dp u,dp x,dp m,fW,eH,Y,j,D,v,y,z,N,H,a7,af,ao];refine⟨ah,hr A _ ?_⟩;simp only[go_sem]
        |false=>
         cases a8:(((an (oI l.id) L:Nat):Int)!=2)with
         |true=>
          have N:¬(l.id<1):=iY B;have H:¬(((an aa.aB L/2:Nat):Int)<l.id):=iY E;have A:gU f L l=false:=by simp only[gU,j,D,oZ,v,y,z,B,E,a7,a8];rfl
          simp only[go_sem,pE,R,hB,X,M,O,T,Z,pX,mE,rf,dp u,dp x,dp m,fW,eH,Y,j,D,v,y,z,N,H,a7,a8,af,ao];refine⟨ah,hr A _ ?_⟩;simp only[go_sem]
         |false=>
          have N:¬(l.id<1):=iY B;have H:¬(((an aa.aB L/2:Nat):Int)<l.id):=iY E;have A:gU f L l:=by simp only[gU,j,D,oZ,v,y,z,B,E,a7,a8];rfl
          simp only[go_sem,pE,R,hB,X,M,O,T,Z,pX,mE,rf,dp u,dp x,dp m,fW,eH,Y,j,D,v,y,z,N,H,a7,a8,af,ao];refine⟨ah,hq A _ ?_ ?_⟩;all_goals simp only[go_sem]
  |false=>
   have A:gU f L l=false:=by simp only[gU,j,D];rfl
   simp only[go_sem,pE,M,O,j,D,af,ao];refine hr A _ ?_;simp only[go_sem]
def yg(f:Int)(L:ai):Bool:=L.all (gU f L)
def aqR(f:Int)(L:ai)(hl:I L<=1000000):aK S 39 [c_ f L] (cO (yg f L)):=by
 refine bj apI ?_;simp only[go_sem,anS,af,ao];refine dy (λk h aj=>h 1=.one (.bm 2496000000 1 0)/\aj 2496000000=(1,some (.var (qg f L)))/\h 3=aH k/\ ∀j l,j<k->L[j]?=some l->gU f L l) 0 (I L) (cG _) ?_ ?_
 .simp only[go_sem];exact⟨rfl,λj l ab=>absurd ab (pG j)⟩
 rintro k h aj hk ⟨m,v,u,E⟩
 by_cases D:k<I L
 .obtain⟨l,A⟩:=aT D;have hi:=gb A;have X:((k:Int)<(I L:Int)):=J;have R:=cN (n:=k) J;simp only[go_sem,abh,m,v,u,hi,dD,aa.ps,X,af,ao];refine asI (f:=f) (l:=l) (g:=(aj 2496256320).1+1) (i:=k) hl ?_ ?_ ?_ ?_ ?_ ?_ ?_ ?_ ?_
  .simp only[go_sem,m]
  .simp only[go_sem,v]
  .simp only[go_sem,u]
  .simp only[go_sem]
  .simp only[go_sem]
  .simp only[go_sem]
  .simp only[go_sem]
  .simp only[go_sem]
  intro aL aq Q y F B M q5 Z;simp only[go_sem,m,u]at Q y F;simp only[go_sem,v]at B M;simp only[go_sem];refine aox (f:=f) (l:=l) (i:=k) hl Q B y F M q5 Z ?_ ?_
  .intro PE T N O;rw[Q]at N;rw[y]at O;simp only[go_sem,ae7,N,B,O,R,af,ao];refine⟨D,λj l' H Y=>?_⟩;rcases mQ.1 H with H|rfl
   .exact E j l' H Y
   rw[A]at Y;cases Y;exact PE
  intro L9 T e2;have z:yg f L=false:=by unfold yg;rw[OM];exact⟨l,bR A,by simp[L9]⟩
  simp only[go_sem,e2,z,af,ao]
 have:k=I L:=J;subst this;have z:yg f L:=by unfold yg;rw[kr];intro x hx;obtain⟨j,H,rfl⟩:=List.getElem_of_mem hx;exact E j _ H aP
 simp only[go_sem,abh,ali,m,v,u,eR,z,af,ao]
def axq{L:ai}{o:aF}{i:Nat}:x∈BF L o i↔x∈o\/x=i:=by
 unfold BF;generalize(o.takeWhile (C5 L i)).length=bY;constructor
 .intro h;rcases iW.1 h with h|h
  .exact .inl (wu h)
  rcases dr.1 h with h|h
  .exact .inr h
  exact .inl (v7 h)
 rintro(h|rfl)
 .rw[<-nu bY o]at h;rcases iW.1 h with h|h
  .exact iW.2 (.inl h)
  exact iW.2 (.inr (dr.2 (.inr h)))
 simp
def afo{L:ai}:∀ {k x:Nat},k<=I L->(x∈qR L k↔x<k/\ ∃l,L[x]?=some l/\l.aI):=by
 intro k
 induction k with
 |zero=>intro x _;simp[qR]
 |succ k g=>
  intro x u;rw[LV];obtain⟨l,hl⟩:=aT (L:=L) (k:=k) J;have g:=g (x:=x) J;unfold Ca;rw[hl];simp only;by_cases hp:l.aI
  .rw[aD hp,axq,g];constructor
   .rintro (⟨f,H⟩|rfl)
    .exact⟨J,H⟩
    exact⟨J,l,hl,hp⟩
   rintro⟨f,H⟩
   rcases mQ.1 f with h|rfl
   .exact .inl ⟨h,H⟩
   exact .inr rfl
  rw[aC hp,g];constructor
  .rintro ⟨f,H⟩;exact⟨J,H⟩
  rintro⟨f,m,j,n⟩
  rcases mQ.1 f with h|rfl
  .exact⟨h,m,j,n⟩
  rw[hl]at j;cases j;exact(hp n).elim
def uk{L:ai}:x∈aE L↔ ∃l,L[x]?=some l/\l.aI:=by
 have:=afo (L:=L) (k:=I L) (x:=x) (c3 _);have e:aE L=qR L (I L):=rfl;rw[e,this];constructor
 .rintro ⟨_,h⟩;exact h
 rintro⟨l,h,H⟩;exact⟨(cn.1 h).1,l,h,H⟩
def anK{L:ai}(h:yg f L){l:aa}(H:L[v]?=some l):l.aI\/l.aB:=by
 have:=(kr.1 h) l (bR H);unfold gU at this;unfold aa.aI aa.aB;cases j:(l.kind==1)with
 |true=>exact .inl rfl
 |false=>
  cases g:(l.kind==2)with
  |true=>exact .inr rfl
  |false=>rw[j,g]at this;simp at this
def gC(L:ai):Nat:=I (fz (j8 L (aE L)) (2*I L+2*I (aE L)))
def oD(f:Int)(L:ai):Bool:=(match L[0]? with|some l=>l.kind==1|none=>true)&&(an aa.aI L%2==0)&&yg f L&&(gC L==an aa.aI L+an aa.aB L/2+2)
def de(f:Int)(L:ai):Int:=if 400<I L\/200<an aa.aB L then 7 else if f<0\/40<f then 2 else if L=[]then 0 else if oD f L then 0 else 3
def VO(f:Int)(L:ai)(hl:I L<=1000000):aK S 17 [c_ f L] (ja (de f L)):=by
 have j:=adF f L hl;have x:=ajJ f L hl;have u:=aqR f L hl;have X:=NO f L hl;have am:=o7 aa.aB L;have ji:=o7 aa.aI L;refine bj aDh ?_;unfold de;by_cases Y:400<I L
 .have z:(400:Int)<(I L:Int):=J;simp only[go_sem,Bw,Y,z,af,ao]
 have z:¬(400:Int)<(I L:Int):=J;by_cases R:200<an aa.aB L
 .have A:(200:Int)<(an aa.aB L:Int):=J;simp only[go_sem,Bw,Y,z,R,A,mE,dJ j,af,ao]
 have A:¬(200:Int)<(an aa.aB L:Int):=J;by_cases D:f<0
 .simp only[go_sem,Bw,Y,z,R,A,D,mE,dJ j,af,ao]
 by_cases M:40<f
 .simp only[go_sem,Bw,Y,z,R,A,D,M,mE,dJ j,af,ao]
 have ab:¬(400<I L\/200<an aa.aB L):=J;have ad:¬(f<0\/40<f):=J;rw[aC ab,aC ad];by_cases he:L=[]
 .subst he;have hz:(((0:Nat):Int)==0):=U;have ag:¬((400:Int)<((0:Nat):Int)):=U;have ac:aK S 37 [.agg [.p (.int .i64 f),.p (.sl [])]] (ja (an aa.aB [])):=j;simp only[go_sem,Bw,ag,A,D,M,mE,dJ ac,hz,af,ao]
 have H:0<I L:=jH.2 he;obtain⟨Z,F⟩:=aT H;have Q:=gb F;have T:(((I L:Nat):Int)==0)=false:=by simp;omega
 rw[aC he];generalize g:(if oD f L=true then(0:Int)else 3)=r;cases B:(Z.kind==1)with
 |false=>
  have m:(Z.kind !=1):=by simp[bne,B]
  have n:oD f L=false:=by simp only[oD,F,B];rfl
  rw[n]at g;have g:(3:Int)=r:=g;subst g;simp only[go_sem,Bw,z,A,D,M,mE,dJ j,T,He,dJ x,Q,dD,aa.ps,m,H,af,ao];exact aA
 |true=>
  have m:(Z.kind !=1)=false:=by simp[bne,B]
  cases O:(an aa.aI L%2==0)with
  |false=>
   have y:(((an aa.aI L%2:Nat):Int)!=0):=by simp at O |-;omega
   have n:oD f L=false:=by simp only[oD,F,B,O];rfl
   rw[n]at g;have g:(3:Int)=r:=g;subst g;simp only[go_sem,Bw,z,A,D,M,mE,dJ j,T,He,dJ x,Q,dD,aa.ps,m,k_,eH,y,H,af,ao];exact aA
  |true=>
   have y:(((an aa.aI L%2:Nat):Int)!=0)=false:=by simp at O |-;omega
   cases c9:yg f L with
   |false=>
    rw[c9]at u;have n:oD f L=false:=by simp only[oD,F,B,O,c9];rfl
    rw[n]at g;have g:(3:Int)=r:=g;subst g;simp only[go_sem,Bw,z,A,D,M,mE,dJ j,T,He,dJ x,Q,dD,aa.ps,m,k_,eH,y,aaN,dq u,H,af,ao];exact aA
   |true=>
    rw[c9]at u;have aO:aE L≠[]:=λe=>by have:(0:Nat)∈aE L:=uk.2 ⟨Z,F,B⟩;rw[e]at this;cases this
    have hp:∀v l,L[v]?=some l->(l.kind==2)=false->v∈aE L:=λv l n R=>by
     rcases anK c9 n with h|h
     .exact uk.2 ⟨l,n,h⟩
     unfold aa.aB at h;rw[R]at h;cases h
    have pw:=aeY f L hl aO hp;have Mm:gC L=I (fz (j8 L (aE L)) (2*I L+2*I (aE L))):=rfl;have Af:=Kx (j8 L (aE L)) (2*I L+2*I (aE L)) (2*I L+2*I (aE L));generalize hW:fz (j8 L (aE L)) (2*I L+2*I (aE L))=N at pw Af Mm;have a1:=vc (a:=an aa.aI L) (b:=an aa.aB L/2) J;have a2:IntKind.i64.wrap (((an aa.aI L+an aa.aB L/2:Nat):Int)+2)=((an aa.aI L+an aa.aB L/2+2:Nat):Int):=vc (a:=an aa.aI L+an aa.aB L/2) (b:=2) J;have ik:S.lone 1088513152=false:=ah
    have fj:∀(aj:aN),fg aj [] 1088513152 ((RV.one (.own 109 1 (N.map λw=>[tU w]))).fR (S.lone 1088513152))=some (.one (.hsl 1088513152 ((aj 1088513152).1+1) 1 0 (I N)),[(1088513152,((aj 1088513152).1+1,some (.arr 109 1 (N.map λw=>[tU w]))))]):=by intro aj;rw[ik];simp only[RV.fR,fg,true_or,if_true,jq,mz,m_,nk,fC,vO,rF,cY,rT]
    cases c4:(I N==an aa.aI L+an aa.aB L/2+2)with
    |false=>
     have E:(((I N:Nat):Int)!=((an aa.aI L+an aa.aB L/2+2:Nat):Int)):=by simp at c4 |-;omega
     have n:oD f L=false:=by simp only[oD,F,B,O,c9,Mm,c4];rfl
     rw[n]at g;have g:(3:Int)=r:=g;subst g;simp only[go_sem,Bw,z,A,D,M,mE,dJ j,T,He,dJ x,Q,dD,aa.ps,m,k_,eH,y,aaN,dq u,aaE,fp pw (fj _),IL,dp X,a1,a2,E,H,af,ao];exact aA
    |true=>
     have E:(((I N:Nat):Int)!=((an aa.aI L+an aa.aB L/2+2:Nat):Int))=false:=by simp at c4 |-;omega
     have n:oD f L:=by simp only[oD,F,B,O,c9,Mm,c4];rfl
     rw[n]at g;have g:(0:Int)=r:=g;subst g;simp only[go_sem,Bw,z,A,D,M,mE,dJ j,T,He,dJ x,Q,dD,aa.ps,m,k_,eH,y,aaN,dq u,aaE,fp pw (fj _),IL,dp X,a1,a2,E,H,af,ao];exact aA
def ek(f:Int)(l:aa):Bool:=if l.kind==1 then(((decide (l.gate<0)||decide (f<l.gate))||l.id !=0)||l.sign !=0)||l.over else if l.kind==2 then(l.gate !=0||l.ay !=0)||(l.sign !=1&&l.sign != -1)else true
def aup(f:Int)(l:aa)(D X x x4 y z:PV):aK S 141 [uT l,.one (.p (.box [.box [.int .i64 f,D,X,x,x4,y,z]]))] (cO (ek f l)):=by
 refine bj ayh ?_;cases g:(l.kind==1)with
 |true=>
  cases A:(decide (l.gate<0))with
  |true=>
   have B:(l.gate<0):=pJ A;have h:ek f l:=by simp only[ek,g,A];rfl
   simp only[go_sem,yv,g,B,h,af,ao];exact aA
  |false=>
   cases j:(decide (f<l.gate))with
   |true=>
    have B:¬(l.gate<0):=iY A;have F:(f<l.gate):=pJ j;have h:ek f l:=by simp only[ek,g,A,j];rfl
    simp only[go_sem,yv,g,B,F,h,af,ao];exact aA
   |false=>
    cases m:(l.id !=0)with
    |true=>
     have B:¬(l.gate<0):=iY A;have F:¬(f<l.gate):=iY j;have h:ek f l:=by simp only[ek,g,A,j,m];rfl
     simp only[go_sem,yv,g,B,F,m,h,af,ao];exact aA
    |false=>
     cases u:(l.sign !=0)with
     |true=>
      have B:¬(l.gate<0):=iY A;have F:¬(f<l.gate):=iY j;have h:ek f l:=by simp only[ek,g,A,j,m,u];rfl
      simp only[go_sem,yv,g,B,F,m,u,h,af,ao];exact aA
     |false=>
      cases v:(l.over)with
      |true=>
       have B:¬(l.gate<0):=iY A;have F:¬(f<l.gate):=iY j;have h:ek f l:=by simp only[ek,g,A,j,m,u,v];rfl
       simp only[go_sem,yv,g,B,F,m,u,v,h,af,ao];exact aA
      |false=>
       have B:¬(l.gate<0):=iY A;have F:¬(f<l.gate):=iY j;have h:ek f l=false:=by simp only[ek,g,A,j,m,u,v];rfl
       simp only[go_sem,yv,g,B,F,m,u,v,h,af,ao];exact aA
 |false=>
  cases n:(l.kind==2)with
  |true=>
   cases A:(l.gate !=0)with
   |true=>
    have h:ek f l:=by simp only[ek,g,n,A];rfl
    simp only[go_sem,yv,g,n,A,h,af,ao]
   |false=>
    cases j:(l.ay !=0)with
    |true=>
     have h:ek f l:=by simp only[ek,g,n,A,j];rfl
     simp only[go_sem,yv,g,n,A,j,h,af,ao]
    |false=>
     cases m:(l.sign !=1)with
     |true=>
      cases u:(l.sign != -1)with
      |true=>
       have h:ek f l:=by simp only[ek,g,n,A,j,m,u];rfl
       simp only[go_sem,yv,g,n,A,j,m,u,h,af,ao]
      |false=>
       have h:ek f l=false:=by simp only[ek,g,n,A,j,m,u];rfl
       simp only[go_sem,yv,g,n,A,j,m,u,h,af,ao]
     |false=>
      have h:ek f l=false:=by simp only[ek,g,n,A,j,m];rfl
      simp only[go_sem,yv,g,n,A,j,m,h,af,ao]
  |false=>
   have h:ek f l:=by simp only[ek,g,n];rfl
   simp only[go_sem,yv,g,n,h,af,ao]
abbrev Th(f:Int)(x1 x2 x3 x4 x5 x6:PV):PV:=.fn 141 [] [.box [.box [.int .i64 f,x1,x2,x3,x4,x5,x6]]]
def at4(f:Int)(L:ai)(A X x x4 v z:PV)(hl:I L<=1000000)(g:A.norm=A/\X.norm=X/\x.norm=x/\x4.norm=x4/\v.norm=v/\z.norm=z):
  ∃k:Int,(0<=k↔L.any (ek f)=true)/\aK S 166 [.one (.p (eg L)),.one (.p (Th f A X x x4 v z))] (ja k):=by
 have M:∀r:Int,(∀(k:Nat) l,L[k]?=some l->ek f l->(∀(j:Nat) m,j<k->L[j]?=some m->ek f m=false)->r=k)->((∀(j:Nat) m,L[j]?=some m->ek f m=false)->r= -1)->
   aK S 166 [.one (.p (eg L)),.one (.p (Th f A X x x4 v z))] (ja r):=by
  intro r fE xR;refine bj ar1 ?_;simp only[go_sem,alP,af,ao];refine dy (λk h aj=>h 0=.one (.p (eg L))/\h 1=.one (.p (Th f A X x x4 v z))/\h 7=aH (I L)/\h 8=aH k/\ ∀j m,j<k->L[j]?=some m->ek f m=false) 0 (I L) (cG _) ?_ ?_
  .simp only[go_sem];exact⟨rfl,λj m B=>absurd B (pG j)⟩
  rintro k h aj T ⟨Q,u,D,E,g⟩
  by_cases R:k<I L
  .obtain⟨l,F⟩:=aT R;have Z:=gb F;have Y:((k:Int)<(I L:Int)):=J;have w1:=cN (n:=k) J;have pb:=aup f l A X x x4 v z;cases H:ek f l with
   |true=>rw[H]at pb;have N:=fE k l F H g;subst N;simp only[go_sem,TG,Q,u,D,E,Z,dD,aa.ps,Y,alk,au pb,af,ao]
   |false=>
    rw[H]at pb;simp only[go_sem,TG,Q,u,D,E,Z,dD,aa.ps,Y,w1,alk,au pb,af,ao];refine⟨R,λj m O y=>?_⟩;rcases mQ.1 O with O|rfl
    .exact g j m O y
    rw[F]at y;cases y;exact H
  have:k=I L:=J;subst this;have N:=xR λj m y=>g j m (cn.1 y).1 y;subst N;simp only[go_sem,TG,ad7,D,E,eR,af,ao]
 cases ha:L.any (ek f)with
 |true=>
  have hx:L.findIdx (ek f)<I L:=amZ (by simpa using ha);refine⟨(L.findIdx (ek f):Nat),⟨λ_=>rfl,λ_=>J⟩,M _ ?_ ?_⟩
  .intro k l F H g;have T:=(cn.1 F).1;have u:ek f L[L.findIdx (ek f)]:=WD;rcases LX (L.findIdx (ek f)) k with B|B|B
   .have:=g _ _ B (ue hx);rw[u]at this;cases this
   .rw[B]
   have:=List.not_of_lt_findIdx B;have e:L[k]=l:=by rw[ue T]at F;exact rz F
   rw[e,H]at this;simp at this
  intro g;have u:ek f L[L.findIdx (ek f)]:=WD;have:=g _ _ (ue hx);rw[u]at this;cases this
 |false=>refine⟨-1,⟨λB=>J,λB=>by cases B⟩,M _ ?_ (λ_=>rfl)⟩;intro k l F H _;have:=E6.1 ha l (bR F);exact(this H).elim
def asr(f:Int)(L:ai)(g x j x4 m X:PV)(hl:I L<=1000000)(y:g.norm=g/\x.norm=x/\j.norm=j/\x4.norm=x4/\m.norm=m/\X.norm=X):
  aK S 140 [.one (.p (eg L)),.one (.p (Th f g x j x4 m X))] (cO (L.any (ek f))):=by
 obtain⟨k,u,v⟩:=at4 f L g x j x4 m X hl y;refine bj apZ ?_;cases H:L.any (ek f)with
 |true=>have n:=u.2 H;simp only[go_sem,abO,afn,dJ v,n,af,ao]
 |false=>
  have n:¬0<=k:=λh=>by rw[u.1 h]at H;cases H
  simp only[go_sem,abO,afn,dJ v,n,af,ao]
abbrev NH(f:Int)(ls:ai)(x2 x3 x4 x5 x6:PV):PV:=.box [.int .i64 f,eg ls,x2,x3,x4,x5,x6]
def arG(f:Int)(L:ai)(x g x4 j X:PV)(hl:I L<=1000000)(h:x.norm=x/\g.norm=g/\x4.norm=x4/\j.norm=j/\X.norm=X):
  aK S 111 [.one (.p (NH f L x g x4 j X))] (cO (!L.any (ek f))):=by
 have pc:=asr f L (eg L) x g x4 j X hl ⟨rfl,h.1,h.2.1,h.2.2.1,h.2.2.2.1,h.2.2.2.2⟩;refine bj ap4 ?_;simp only[go_sem,ah2,azU,au pc,h.1,h.2.1,h.2.2.1,h.2.2.2.1,h.2.2.2.2,af,ao]
def aoK(f:Int)(L:ai)(g:aa)(x u x4 v X:PV)(hl:I L<=1000000)(m:L[0]?=some g):
  aK S 112 [.one (.p (NH f L x u x4 v X))] (cO (g.kind==1&&an aa.aI L%2==0)):=by
 have n:=acs f L hl;have j:=gb m;refine bj aow ?_;have E:((((an aa.aI L)%2:Nat):Int)==0)=(an aa.aI L%2==0):=by
  cases h:(an aa.aI L%2==0)with
  |true=>simp at h |-;omega
  |false=>simp at h |-;omega
 cases H:(g.kind==1)with
 |true=>simp only[go_sem,ac2,j,dD,aa.ps,H,ac7,dJ n,k_,eH,E,af,ao]
 |false=>simp only[go_sem,ac2,j,dD,aa.ps,H,af,ao]
def oQ(g:Nat)(l:aa):Bool:=l.aI&&l.gate==(g:Int)
abbrev bU(ls:ai)(g:Nat):Nat:=an (oQ g) ls
def tH(L:ai)(F k:Nat):aF:=(List.range (F+1)).map λg=>bU (L.take k) g
def gy(L:ai)(F:Nat):aF:=(List.range (F+1)).map (bU L)
def aeN{L:ai}{k G:Nat}(h:G<=F):(tH L F k)[G]?=some (bU (L.take k) G):=by simp[tH,qI (show G<F+1 by omega)]
def abp(L:ai)(F:Nat):tH L F (I L)=gy L F:=by simp[tH,gy]
def WA(L:ai)(F:Nat):tH L F 0=List.replicate (F+1) 0:=by apply xS<;>simp[tH,an]
def ald{L:ai}{k:Nat}{l:aa}(h:L[k]?=some l)(hp:l.aI=false):tH L F (k+1)=tH L F k:=by unfold tH;congr 1;funext g;exact mH h (by simp[oQ,hp])
def aj4{L:ai}{k G:Nat}{l:aa}(h:L[k]?=some l)(hp:l.aI)(H:l.gate=(G:Int)):
  tH L F (k+1)=(tH L F k).set G (bU (L.take k) G+1):=by
 apply xS
 .simp[tH]
 intro i g f;rw[I6];simp only[tH,C6,Hq];split
 .rename_i e;subst e;exact uf h (by simp[oQ,hp,H])
 exact mH h (by simp[oQ,H];intro _ e;omega)
def KI(o:aF)(k n:Nat):(a_ o).set k [.int .i64 (n:Int)]=a_ (o.set k n):=by simp[wZ]
def Nx(o:aF):I (a_ o)=I o:=aP
def abM(n m:Nat):a_ (List.replicate n m)=List.replicate n [.int .i64 (m:Int)]:=aP
def ajp(n:Nat)(b:Bool):dB (List.replicate n b)=List.replicate n [.bool b]:=aP
def FK{L:ai}{k:Nat}{l:aa}(h:L[k]?=some l)(hp:l.aI):bN L (k+1)= !bN L k:=by
 unfold bN;rw[uf h hp];cases H:(an aa.aI (L.take k)%2==0)with
 |true=>simp at H |-;omega
 |false=>simp at H |-;omega
def Ks{L:ai}{k:Nat}{l:aa}(h:L[k]?=some l)(hp:l.aI=false):bN L (k+1)=bN L k:=by unfold bN;rw[mH h hp]
def km(L:ai)(i:Nat):Bool:=match L[i]? with|some l=>l.aI&&bN L i|none=>false
def uQ(L:ai)(k:Nat):dS:=(List.range (I L)).map λi=>decide (i<k)&&km L i
def ld(L:ai):dS:=(List.range (I L)).map (km L)
def auh(L:ai):uQ L 0=List.replicate (I L) false:=by apply xS<;>simp[uQ]
def auV(L:ai):uQ L (I L)=ld L:=by unfold uQ ld;apply xx;intro i h;simp[gN.1 h]
def awV(L:ai)(k:Nat):I (uQ L k)=I L:=by simp[uQ]
def aC4{L:ai}{k:Nat}{l:aa}(h:L[k]?=some l)(hp:l.aI=false):uQ L (k+1)=uQ L k:=by
 unfold uQ;apply xx;intro i H;by_cases e:i=k
 .subst e;simp[km,h,hp]
 have:(i<k+1)↔(i<k):=J;simp[this]
def avv{L:ai}{k:Nat}{l:aa}(h:L[k]?=some l)(hp:l.aI):uQ L (k+1)=(uQ L k).set k (bN L k):=by
 apply xS
 .simp[uQ]
 intro i f H;rw[I6];simp only[uQ,C6,Hq];split
 .rename_i e;subst e;simp[km,h,hp]
 have:(i<k+1)↔(i<k):=J;simp[this]
def hJ(L:ai)(g:Nat):Nat:=((List.range g).map (bU L)).sum
def tX(L:ai)(g:Nat):hJ L (g+1)=hJ L g+bU L g:=by simp[hJ,rN]
def zj(L:ai)(F k:Nat):aF:=(List.range (F+1)).map λg=>if g<k then hJ L g else 0
def MO(L:ai)(F:Nat):aF:=(List.range (F+1)).map (hJ L)
def avS(L:ai)(F:Nat):zj L F 0=List.replicate (F+1) 0:=by apply xS<;>simp[zj]
def azX(L:ai)(F:Nat):zj L F (F+1)=MO L F:=by unfold zj MO;apply xx;intro i h;simp[gN.1 h]
def asm(L:ai)(F k:Nat):I (zj L F k)=F+1:=by simp[zj]
def aAr(L:ai)(F k:Nat):zj L F (k+1)=(zj L F k).set k (hJ L k):=by
 apply xS
 .simp[zj]
 intro i h H;rw[I6];simp only[zj,C6,Hq];by_cases e:k=i
 .subst e;simp
 have:(i<k+1)↔(i<k):=J;simp only[this,aC e]
def I7{L:ai}{G:Nat}(h:G<=F):(gy L F)[G]?=some (bU L G):=by simp[gy,qI (show G<F+1 by omega)]
def awC{L:ai}{G:Nat}(h:G<=F):(MO L F)[G]?=some (hJ L G):=by simp[MO,qI (show G<F+1 by omega)]
def Bz{L:ai}{a b:Nat}(h:a<=b):hJ L a<=hJ L b:=by
 induction h with
 |refl=>exact c3 _
 |step _ f=>rw[tX];omega
def aBq(g:Nat)(a:aa):((a.aI&&(decide (0<=a.gate)&&decide (a.gate<((g+1:Nat):Int))))=true)↔((a.aI&&(decide (0<=a.gate)&&decide (a.gate<(g:Int))))=true\/oQ g a):=by
 simp only[oQ,c6,iI,dk];constructor
 .rintro ⟨H,f,j⟩
  by_cases h:a.gate=(g:Int)
  .exact Or.inr ⟨H,h⟩
  exact Or.inl ⟨H,f,J⟩
 rintro(⟨H,f,j⟩|⟨H,f⟩)
 .exact⟨H,f,J⟩
 exact⟨H,J,J⟩
def aoH(g:Nat)(a:aa):(a.aI&&(decide (0<=a.gate)&&decide (a.gate<(g:Int))))=true->oQ g a->False:=by simp only[oQ,c6,iI,dk];omega
def adb{p q r:aa->Bool}(h:∀a,r a↔(p a\/q a))(H:∀a,p a->q a->False):∀L:ai,L.countP r=L.countP p+L.countP q:=by
 intro L
 induction L with
 |nil=>rfl
 |cons a L f=>rw[tA,tA,tA,f];have j:=h a;have g:=H a;cases E:p a<;>cases m:q a<;>cases n:r a<;>simp_all<;>omega
def amQ(L:ai):∀g,hJ L g=an (λl=>l.aI&&(decide (0<=l.gate)&&decide (l.gate<((g:Nat):Int)))) L:=by
 intro g
 induction g with
 |zero=>symm;show L.countP _=0;rw[Ho];intro a _;simp only[c6,iI];omega
 |succ g f=>rw[tX,f];exact(adb (aBq g) (aoH g) L).symm
def aaJ(L:ai)(g:Nat):hJ L g<=I L:=by rw[amQ];exact o7 _ _
def fD(L:ai)(l:aa):Nat:=hJ L l.gate.toNat+l.ay.toNat-1
def ub(L:ai)(p i:Nat):Bool:=match L[i]? with|some l=>l.aI&&fD L l==p|none=>false
def zi(L:ai)(T k:Nat):dS:=(List.range T).map λp=>(List.range k).any (ub L p)
def NC(L:ai)(k p:Nat):Nat:=((List.range k).find? (ub L p)).getD 0
def uy(L:ai)(T k:Nat):aF:=(List.range T).map (NC L k)
def Dj(L:ai)(i:Nat):Nat:=match L[i]? with|some l=>if l.aI then fD L l else 0|none=>0
def mq(L:ai)(k:Nat):aF:=(List.range (I L)).map λi=>if i<k then Dj L i else 0
def ur(L:ai)(i:Nat):Bool:=match L[i]? with
 |some l=> !l.aI||(decide (1<=l.ay)&&decide (l.ay<=(bU L l.gate.toNat:Int)))&& !(List.range i).any (ub L (fD L l))
 |none=>true
def zJ(L:ai):Bool:=(List.range (I L)).all (ur L)
def aoC(L:ai)(T:Nat):zi L T 0=List.replicate T false:=by apply xS<;>simp[zi]
def aBi(L:ai)(T:Nat):uy L T 0=List.replicate T 0:=by apply xS<;>simp[uy,NC]
def ayI(L:ai):mq L 0=List.replicate (I L) 0:=by apply xS<;>simp[mq]
def ak0(L:ai)(T k:Nat):I (uy L T k)=T:=by simp[uy]
def azm(L:ai)(k:Nat):I (mq L k)=I L:=by simp[mq]
def ap6{L:ai}{k p:Nat}(h:p<T):(zi L T k)[p]?=some ((List.range k).any (ub L p)):=by simp[zi,h]
def aj8{L:ai}{k p:Nat}{l:aa}(h:L[k]?=some l)(hp:l.aI=false):ub L p k=false:=by simp[ub,h,hp]
def asq{L:ai}{k:Nat}{l:aa}(h:L[k]?=some l)(hp:l.aI=false):zi L T (k+1)=zi L T k:=by unfold zi;congr 1;funext p;simp[rN,List.any_append,aj8 h hp]
def asf{L:ai}{k:Nat}{l:aa}(h:L[k]?=some l)(hp:l.aI=false):uy L T (k+1)=uy L T k:=by unfold uy;congr 1;funext p;simp[NC,rN,abu,aj8 h hp]
def aCi{L:ai}{k:Nat}{l:aa}(h:L[k]?=some l)(hp:l.aI=false):mq L (k+1)=mq L k:=by
 unfold mq;apply xx;intro i H;by_cases e:i=k
 .subst e;simp[Dj,h,hp]
 have:(i<k+1)↔(i<k):=J;simp[this]
def Og{L:ai}{k p:Nat}{l:aa}(h:L[k]?=some l)(hp:l.aI):ub L p k=(fD L l==p):=by simp[ub,h,hp]
def arD{L:ai}{k:Nat}{l:aa}(h:L[k]?=some l)(hp:l.aI):zi L T (k+1)=(zi L T k).set (fD L l) true:=by
 apply xS
 .simp[zi]
 intro i f H;rw[I6];simp only[zi,C6,Hq,rN,List.any_append,Q1,UQ,Sx,Og h hp];split
 .rename_i e;simp[e]
 rename_i e;simp[e]
def aqQ{L:ai}{k:Nat}{l:aa}(h:L[k]?=some l)(hp:l.aI)(f:(List.range k).any (ub L (fD L l))=false):uy L T (k+1)=(uy L T k).set (fD L l) k:=by
 apply xS
 .simp[uy]
 intro i u n;rw[I6];simp only[uy,C6,Hq,NC,rN,abu];by_cases e:fD L l=i
 .have j:(List.range k).find? (ub L i)=none:=by
   rw[<-e,G9];intro x m g;rw[E6]at f;exact f x m g
  have H:ub L i k:=by rw[Og h hp];simp[e]
  rw[j,aD e,O9,H];rfl
 have H:ub L i k=false:=by rw[Og h hp];simp[e]
 rw[aC e,O9,H];simp
def apB{L:ai}{k:Nat}{l:aa}(h:L[k]?=some l)(hp:l.aI):mq L (k+1)=(mq L k).set k (fD L l):=by
 apply xS
 .simp[mq]
 intro i f H;rw[I6];simp only[mq,C6,Hq];by_cases e:k=i
 .subst e;simp[Dj,h,hp]
 have:(i<k+1)↔(i<k):=J;simp only[this,aC e]
def aaG{L:ai}{k:Nat}(H:k<I L)(h:ur L k=false):zJ L=false:=by unfold zJ;rw[OM];exact⟨k,gN.2 H,by simp[h]⟩
def aAx{L:ai}(h:∀i,i<I L->ur L i):zJ L:=by unfold zJ;rw[kr];exactλi H=>h i (gN.1 H)
abbrev LK(id:Nat):Prop:=id=3264320128\/kW id=113
abbrev xz(F:Nat)(ls:ai)(c2 c9 c4 eT fB:dI):eE:=[.p (.int .i64 (F:Int)),.p (eg ls),c2,c9,c4,eT,fB]
abbrev ae(id g n:Nat):dI:=.hsl id g 1 0 n
abbrev tE(F:Nat)(ls:ai):Prop:=∀l∈ls,l.aI->0<=l.gate/\l.gate<=(F:Int)
def LN(F:Nat)(L:ai)(g:Nat)(eT:dI)(h:aN)(v:V)(A:aN):Prop:=
 v=gE (zJ L)/\dE LK h A/\(zJ L->∃g1 u m f,A 3264320128=(g,some (.var (xz F L (ae 7232128448 u (I L)) (ae 7233344128 f (hJ L (F+1))) (ae 7232192448 m (I L)) eT (ae 7232064448 g1 (F+1)))))/\
  A 7232064448=(g1,some (.arr 3 1 (a_ (gy L F))))/\A 7232128448=(u,some (.arr 4 1 (dB (ld L))))/\A 7232192448=(m,some (.arr 3 1 (a_ (mq L (I L)))))/\
  A 7233344128=(f,some (.arr 3 1 (a_ (uy L (hJ L (F+1)) (I L))))))
def azP{al:cT}(O:al.ok 3264320128)(ok:∀id,kW id=113->al.ok id){lh aj:aN}{g1 g4 F:Nat}{L:ai}{c9 eT:dI}(hl:I L<=1000000)(hF:F<=1000000)(hg:tE F L)
  (y:h 0=.one (.bm 3264320128 g 0)) (M:h 6=.one (ae 7232832384 g4 (F+1))) (h7:h 7=aH (hJ L (F+1)))
  (x:aj 3264320128=(g,some (.var (xz F L (ae 7232128448 u (I L)) c9 (ae 7232192448 m (I L)) eT (ae 7232064448 g1 (F+1))))))
  (B:aj 7232064448=(g1,some (.arr 3 1 (a_ (gy L F))))) (bW:aj 7232128448=(u,some (.arr 4 1 (dB (ld L))))) (N:aj 7232192448=(m,some (.arr 3 1 (a_ (mq L 0)))))
  (bF:aj 7232832384=(g4,some (.arr 3 1 (a_ (MO L F))))) (hk:dE LK lh aj):ch S al Xa (sO al [(2,none)] (LN F L g eT lh)) h aj:=by
 have o1:=ok 7232064448 rfl;have o2:=ok 7232128448 rfl;have Z:=ok 7232192448 rfl;have o4:=ok 7232448192 rfl;have X:=ok 7232832384 rfl;have T:=ok 7233344128 rfl;have Y:=ok 7233408064 rfl;have o8:=ok 7233600192 rfl;have hT:=aaJ L (F+1);have P0:hJ L (F+1)*8<=140737488355328:=J;have fE:hJ L (F+1)<=140737488355328:=J;simp only[go_sem,Xa,y,h7,x,P0,fE,O,o1,o2,Z,o4,X,T,Y,o8,af,ao];refine dy (λk h A=>h 0=.one (.bm 3264320128 g 0)/\h 6=.one (ae 7232832384 g4 (F+1))/\h 10=.one (ae 7233408064 ((aj 7233408064).1+1) (hJ L (F+1)))/\h 114=.one (.p (eg L))/\h 115=aH (I L)/\h 116=aH k/\
  A 3264320128=(g,some (.var (xz F L (ae 7232128448 u (I L)) (ae 7233344128 ((aj 7233344128).1+1) (hJ L (F+1))) (ae 7232192448 m (I L)) eT (ae 7232064448 g1 (F+1)))))/\
  A 7232064448=(g1,some (.arr 3 1 (a_ (gy L F))))/\A 7232128448=(u,some (.arr 4 1 (dB (ld L))))/\A 7232192448=(m,some (.arr 3 1 (a_ (mq L k))))/\
  A 7232832384=(g4,some (.arr 3 1 (a_ (MO L F))))/\A 7233344128=((aj 7233344128).1+1,some (.arr 3 1 (a_ (uy L (hJ L (F+1)) k))))/\A 7233408064=((aj 7233408064).1+1,some (.arr 4 1 (dB (zi L (hJ L (F+1)) k))))/\
  (∀i,i<k->ur L i)/\dE LK lh A) 0 (I L) (cG _) ?_ ?_
 .simp only[go_sem,y,M,B,bW,N,bF,af,ao,aBi,aoC,abM,ajp];refine⟨rfl,rfl,λi Q=>absurd Q (pG i),?_⟩;repeat(first|exact hk|refine dE.dx ?_ (by first|exact Or.inl rfl|exact Or.inr rfl) _)
 rintro k h A hk ⟨y,M,cQ,Pa,LZ,HF,x,B,bW,N,bF,bA,bT,aG,dz⟩
 by_cases z:k<I L
 .obtain⟨l,f⟩:=aT z;have v:=gb f;have aM:((k:Int)<(I L:Int)):=J;have w1:=cN (n:=k) J;cases hp:(l.kind==1)with
  |false=>
   have j:l.aI=false:=hp;have pZ:(l.kind !=1):=by simp[bne,hp]
   have jZ:ur L k:=by simp[ur,f,j]
   simp only[go_sem,IF,y,M,cQ,Pa,LZ,HF,x,B,bW,bF,N,bA,bT,v,dD,aa.ps,aM,hp,pZ,w1,O,o1,o2,Z,o4,X,T,Y,o8,af,ao];refine⟨z,?_,?_,?_,?_,?_⟩
   .rw[aCi f j]
   .rw[asf f j]
   .rw[asq f j]
   .intro i v;rcases mQ.1 v with Q|rfl
    .exact aG i Q
    exact jZ
   repeat(first|exact dz|refine dE.dx ?_ (by first|exact Or.inl rfl|exact Or.inr rfl) _)
  |true=>
   have j:l.aI:=hp;have pZ:(l.kind !=1)=false:=by simp[bne,hp]
   obtain⟨CL,am⟩:=hg l (bR f) j;obtain⟨G,hG⟩:=o_ CL;have Cw:G<=F:=J;have Bb:G<F+1:=J;have pM:=jG (I7 (L:=L) Cw);have Em:=jG (awC (L:=L) Cw);have nW:l.gate.toNat=G:=J;cases r1:decide (l.ay<1)with
   |true=>have uG:l.ay<1:=pJ r1;have ab:¬1<=l.ay:=J;have D:=aaG z (show ur L k=false by simp[ur,f,j,ab]);simp only[go_sem,IF,y,M,cQ,Pa,LZ,HF,x,B,bW,bF,N,bA,bT,v,dD,aa.ps,aM,hp,pZ,w1,uG,O,o1,o2,Z,o4,X,T,Y,o8,af,ao];refine⟨aA,?_⟩;unfold LN;refine⟨by rw[D],?_,λQ=>by rw[D]at Q;cases Q⟩;repeat(first|exact dz|refine dE.dx ?_ (by first|exact Or.inl rfl|exact Or.inr rfl) _)
   |false=>
    have uG:¬l.ay<1:=iY r1;obtain⟨R,hR⟩:=o_ (show 0<=l.ay by omega);have E:¬((R:Int)<1):=J;cases r2:decide ((bU L G:Int)<(R:Int))with
    |true=>
     have vt:(bU L G:Int)<(R:Int):=pJ r2;have ad:¬l.ay<=(bU L l.gate.toNat:Int):=by rw[nW];omega
     have D:=aaG z (show ur L k=false by simp[ur,f,j,ad]);simp only[go_sem,IF,y,M,cQ,Pa,LZ,HF,x,B,bW,bF,N,bA,bT,v,dD,aa.ps,aM,hp,pZ,w1,hR,hG,E,vt,pM,Bb,O,o1,o2,Z,o4,X,T,Y,o8,af,ao];refine⟨aA,?_⟩;unfold LN;refine⟨by rw[D],?_,λQ=>by rw[D]at Q;cases Q⟩;repeat(first|exact dz|refine dE.dx ?_ (by first|exact Or.inl rfl|exact Or.inr rfl) _)
    |false=>
     have vt:¬(bU L G:Int)<(R:Int):=iY r2;have ag:=aaJ L G;have ac:=Bz (L:=L) (show G+1<=F+1 by omega);have Eo:=tX L G;have H:fD L l<hJ L (F+1):=by unfold fD;rw[nW];omega
     have bk:hJ L G+R-1=fD L l:=by unfold fD;rw[nW];omega
     have cS:bU L G<=I L:=o7 _ _;have w2:=vc (a:=hJ L G) (b:=R) J;have w3:=EF (a:=hJ L G+R) J J;rw[bk]at w3;have JT:=qO (ap6 (L:=L) (k:=k) H);cases hu:(List.range k).any (ub L (fD L l))with
     |true=>rw[hu]at JT;have D:=aaG z (show ur L k=false by simp[ur,f,j,hu]);simp only[go_sem,IF,y,M,cQ,Pa,LZ,HF,x,B,bW,bF,N,bA,bT,v,dD,aa.ps,aM,hp,pZ,w1,hR,hG,E,vt,pM,Em,Bb,w2,w3,JT,H,O,o1,o2,Z,o4,X,T,Y,o8,af,ao];refine⟨aA,aA,?_⟩;unfold LN;refine⟨by rw[D],?_,λQ=>by rw[D]at Q;cases Q⟩;repeat(first|exact dz|refine dE.dx ?_ (by first|exact Or.inl rfl|exact Or.inr rfl) _)
     |false=>
      rw[hu]at JT;have jZ:ur L k:=by
       have e1:1<=l.ay:=J;have e2:l.ay<=(bU L l.gate.toNat:Int):=by rw[nW];omega
       simp[ur,f,e1,e2,hu]
      obtain⟨a0,zT⟩:=aT (show fD L l<I (uy L (hJ L (F+1)) k) by rw[ak0];exact H);obtain⟨p0,Ad⟩:=aT (show k<I (mq L k) by rw[azm];exact z);have zT:=jG zT;have Ad:=jG Ad;have s1:=Jo (zi L (hJ L (F+1)) k) (fD L l) true;rw[<-arD f j]at s1;have s2:=KI (uy L (hJ L (F+1)) k) (fD L l) k;rw[<-aqQ f j hu]at s2;have xQ:=KI (mq L k) k (fD L l);rw[<-apB f j]at xQ;simp only[go_sem,IF,y,M,cQ,Pa,LZ,HF,x,B,bW,bF,N,bA,bT,v,dD,aa.ps,aM,z,hp,pZ,w1,hR,hG,E,vt,pM,Em,Bb,w2,w3,JT,H,zT,Ad,s1,s2,xQ,O,o1,o2,Z,o4,X,T,Y,o8,af,ao];refine⟨aA,aA,aA,?_,?_⟩
      .intro i v;rcases mQ.1 v with Q|rfl
       .exact aG i Q
       exact jZ
      repeat(first|exact dz|refine dE.dx ?_ (by first|exact Or.inl rfl|exact Or.inr rfl) _)
 have:k=I L:=J;subst this;have hr:=aAx aG;simp only[go_sem,IF,ajC,LZ,HF,eR,af,ao];exact⟨by rw[hr],dz,λ_=>⟨g1,u,m,(aj 7233344128).1+1,x,B,bW,N,bA⟩⟩
def axu{al:cT}(O:al.ok 3264320128)(ok:∀id,kW id=113->al.ok id){y aj:aN}{g1 F:Nat}{L:ai}{c9 eT:dI}(hl:I L<=1000000)(hF:F<=1000000)(hg:tE F L)
  (H:h 0=.one (.bm 3264320128 g 0))
  (B:aj 3264320128=(g,some (.var (xz F L (ae 7232128448 u (I L)) c9 (ae 7232192448 m (I L)) eT (ae 7232064448 g1 (F+1))))))
  (v:aj 7232064448=(g1,some (.arr 3 1 (a_ (gy L F))))) (bW:aj 7232128448=(u,some (.arr 4 1 (dB (ld L))))) (N:aj 7232192448=(m,some (.arr 3 1 (a_ (mq L 0)))))
  (M:dE LK y aj):ch S al abW (sO al [(2,none)] (LN F L g eT y)) h aj:=by
 have Z:=ok 7232064448 rfl;have Y:=ok 7232128448 rfl;have o3:=ok 7232192448 rfl;have o4:=ok 7232448192 rfl;have Q:=ok 7232832384 rfl;have D:=ok 7233344128 rfl;have X:=ok 7233408064 rfl;have o8:=ok 7233600192 rfl;have P0:(F+1)*8<=140737488355328:=J;have wF:=cN (n:=F) J;simp only[go_sem,abW,H,B,wF,P0,O,Z,Y,o3,o4,Q,D,X,o8,af,ao];refine dy (λk h A=>h 0=.one (.bm 3264320128 g 0)/\h 6=.one (ae 7232832384 ((aj 7232832384).1+1) (F+1))/\h 7=aH (hJ L k)/\h 88=.one (ae 7232064448 g1 (F+1))/\h 89=aH ((F+1:Nat):Int)/\h 90=aH k/\
  A 3264320128=(g,some (.var (xz F L (ae 7232128448 u (I L)) c9 (ae 7232192448 m (I L)) eT (ae 7232064448 g1 (F+1)))))/\
  A 7232064448=(g1,some (.arr 3 1 (a_ (gy L F))))/\A 7232128448=(u,some (.arr 4 1 (dB (ld L))))/\A 7232192448=(m,some (.arr 3 1 (a_ (mq L 0))))/\
  A 7232832384=((aj 7232832384).1+1,some (.arr 3 1 (a_ (zj L F k))))/\dE LK y A) 0 (F+1) (cG _) ?_ ?_
 .simp only[go_sem,H,B,v,bW,N,af,ao,avS,abM];refine⟨rfl,rfl,rfl,?_⟩;repeat(first|exact M|refine dE.dx ?_ (by first|exact Or.inl rfl|exact Or.inr rfl) _)
 rintro k h A M ⟨H,h6,R,x,f,j,B,v,bW,N,bF,T⟩
 by_cases E:k<F+1
 .have aM:((k:Int)<((F+1:Nat):Int)):=J;have w1:=cN (n:=k) J;have hc:=jG (I7 (L:=L) (show k<=F by omega));obtain⟨a0,z⟩:=aT (show k<I (zj L F k) by rw[asm];exact E);have z:=jG z;have s1:=KI (zj L F k) k (hJ L k);rw[<-aAr]at s1;have ae:=tX L k;have ab:=aaJ L (k+1);have w2:=vc (a:=hJ L k) (b:=bU L k) J;rw[<-ae]at w2;simp only[go_sem,Wh,H,h6,R,x,f,j,B,v,bW,N,bF,E,aM,hc,z,s1,w1,w2,O,Z,Y,o3,o4,Q,D,X,o8,af,ao];repeat(first|exact T|refine dE.dx ?_ (by first|exact Or.inl rfl|exact Or.inr rfl) _)
 have:k=F+1:=J;subst this;simp only[go_sem,Wh,f,j,eR,af,ao];exact azP O ok hl hF hg H h6 R B v bW N (by rw[bF,azX]) T
def auI{al:cT}(O:al.ok 3264320128)(ok:∀id,kW id=113->al.ok id){aj:aN}{F:Nat}{L:ai}{c2 c9 c4 eT fB:dI}(hl:I L<=1000000)(hF:F<=1000000)(hg:tE F L)
  (B:aj 3264320128=(g,some (.var (xz F L c2 c9 c4 eT fB)))):∃v A,lK S 113 [.one (.bm 3264320128 g 0)] al aj v A/\LN F L g eT aj v A:=by
 have X:=ok 7232064448 rfl;have T:=ok 7232128448 rfl;have Z:=ok 7232192448 rfl;have o4:=ok 7232448192 rfl;have M:=ok 7232832384 rfl;have x:=ok 7233344128 rfl;have R:=ok 7233408064 rfl;have Y:=ok 7233600192 rfl;refine qK awo (jc rfl) ?_;have P0:(F+1)*8<=140737488355328:=J;have E:I L*8<=140737488355328:=J;have ju:I L<=140737488355328:=J;have wF:=cN (n:=F) J;simp only[go_sem,ajv,B,wF,P0,E,ju,O,X,T,Z,o4,M,x,R,Y,af,ao];refine dy (λk h A=>h 0=.one (.bm 3264320128 g 0)/\h 3=gE (bN L k)/\h 48=.one (.p (eg L))/\h 49=aH (I L)/\h 50=aH k/\
  A 3264320128=(g,some (.var (xz F L (ae 7232128448 ((aj 7232128448).1+1) (I L)) c9 (ae 7232192448 ((aj 7232192448).1+1) (I L)) eT (ae 7232064448 ((aj 7232064448).1+1) (F+1)))))/\
  A 7232064448=((aj 7232064448).1+1,some (.arr 3 1 (a_ (tH L F k))))/\A 7232128448=((aj 7232128448).1+1,some (.arr 4 1 (dB (uQ L k))))/\A 7232192448=((aj 7232192448).1+1,some (.arr 3 1 (a_ (mq L 0))))/\
  dE LK aj A) 0 (I L) (cG _) ?_ ?_
 .simp only[go_sem,B,af,ao,WA,auh,ayI,abM,ajp];refine⟨rfl,rfl,rfl,rfl,?_⟩;repeat(first|exact(dE.refl _ _)|refine dE.dx ?_ (by first|exact Or.inl rfl|exact Or.inr rfl) _)
 rintro k h A hk ⟨y,h3,Ph,m,H,B,D,bW,N,Q⟩
 by_cases u:k<I L
 .obtain⟨l,f⟩:=aT u;have hi:=gb f;have aM:((k:Int)<(I L:Int)):=J;have w1:=cN (n:=k) J;cases hp:(l.kind==1)with
  |false=>
   have j:l.aI=false:=hp;simp only[go_sem,Ul,y,h3,Ph,m,H,B,D,bW,N,hi,dD,aa.ps,aM,hp,w1,O,X,T,Z,o4,M,x,R,Y,af,ao];refine⟨u,?_,?_,?_,?_⟩
   .rw[Ks f j]
   .rw[ald f j]
   .rw[aC4 f j]
   repeat(first|exact Q|refine dE.dx ?_ (by first|exact Or.inl rfl|exact Or.inr rfl) _)
  |true=>have j:l.aI:=hp;obtain⟨CL,ab⟩:=hg l (bR f) j;obtain⟨G,hG⟩:=o_ CL;have Cw:G<=F:=J;have Bb:G<F+1:=J;have pM:=jG (aeN (L:=L) (k:=k) Cw);have cS:bU (L.take k) G<=k:=BX _ _ _;have w2:=cN (n:=bU (L.take k) G) J;have s1:=KI (tH L F k) G (bU (L.take k) G+1);rw[<-aj4 f j hG]at s1;obtain⟨b0,z⟩:=aT (show k<I (uQ L k) by rw[awV];exact u);have z:=qO z;have s2:=Jo (uQ L k) k (bN L k);rw[<-avv f j]at s2;have hd:=FK f j;simp only[go_sem,Ul,y,h3,Ph,m,H,B,D,bW,N,hi,dD,aa.ps,aM,u,hp,w1,hG,pM,Bb,w2,s1,z,s2,hd,O,X,T,Z,o4,M,x,R,Y,af,ao];refine⟨aA,?_⟩;repeat(first|exact Q|refine dE.dx ?_ (by first|exact Or.inl rfl|exact Or.inr rfl) _)
 have:k=I L:=J;subst this;simp only[go_sem,Ul,m,H,eR,af,ao];exact axu O ok hl hF hg y B (by rw[D,abp]) (by rw[bW,auV]) N Q
def sN(L:ai)(id:Int)(o:Bool)(j:Nat):Bool:=match L[j]? with|some m=>m.aB&&(m.id==id&&m.over==o)|none=>false
def jr(L:ai)(k:Nat)(id:Int)(o:Bool):eC:=(List.range k).find? (sN L id o)
def CC:eC->Int
 |some j=>j
 |none=> -1
def gZ(L:ai):Nat->dd
 |0=>[]
 |k+1=>match L[k]? with
  |some l=>if l.aB&& !(gZ L k).contains l.id then gZ L k++[l.id]else gZ L k
  |none=>gZ L k
def s4(L:ai)(k:Nat)(id:Int):b_:=[.int .i64 (CC (jr L k id false)),.int .i64 (CC (jr L k id true))]
def rC(L:ai)(k:Nat):yJ:=(gZ L k).map λid=>(PV.int .i64 id,s4 L k id)
def Eg(L:ai)(j:Nat):Int:=((L[j]?).map aa.sign).getD 0
def pO(L:ai)(n:Nat)(k:Nat):Bool:=match L[k]? with
 |some l=> !l.aB||((decide (1<=l.id)&&decide (l.id<=(n:Int)))&&((jr L k l.id l.over).isNone&&(match jr L k l.id (!l.over)with|some j=>Eg L j==l.sign|none=>true)))
 |none=>true
def oo(L:ai):Bool:=(an aa.aB L%2==0)&&(List.range (I L)).all (pO L (an aa.aB L/2))&&(I (gZ L (I L))==an aa.aB L/2)
def Ky{L:ai}{k:Nat}{l:aa}(h:L[k]?=some l)(H:l.aB)(id:Int)(o:Bool):sN L id o k=(l.id==id&&l.over==o):=by simp[sN,h,H]
def ahU{L:ai}{k:Nat}{l:aa}(h:L[k]?=some l)(H:l.aB=false)(id:Int)(o:Bool):sN L id o k=false:=by simp[sN,h,H]
def Tk(L:ai)(k:Nat)(id:Int)(o:Bool):jr L (k+1) id o=(jr L k id o).or (if sN L id o k then some k else none):=by simp only[jr,rN,abu,O9,List.find?_nil];cases sN L id o k<;>rfl
def HB{L:ai}{k:Nat}{id:Int}{o:Bool}(h:jr L k id o=some j):j<k/\sN L id o j:=
 ⟨gN.1 (Cg h),HA h⟩
def C4{L:ai}{id:Int}{o:Bool}(h:sN L id o j):∃m,L[j]?=some m/\m.aB/\m.id=id/\m.over=o:=by
 unfold sN at h;split at h
 .rename_i m H;simp only[c6,dk]at h;exact⟨m,H,h.1,h.2.1,h.2.2⟩
 cases h
def Np{L:ai}{k:Nat}{id:Int}{o:Bool}(h:jr L k id o=none)(H:j<k):sN L id o j=false:=by
 have:=G9.1 h j (gN.2 H)
 simpa using this
def amK{L:ai}{k:Nat}{l:aa}(h:L[k]?=some l)(H:l.aB=false):gZ L (k+1)=gZ L k:=by simp[gZ,h,H]
def anx{L:ai}{k:Nat}{l:aa}(h:L[k]?=some l)(f:l.aB)(H:l.id∉gZ L k):gZ L (k+1)=gZ L k++[l.id]:=by simp[gZ,h,f,H]
def ahM{L:ai}{k:Nat}{l:aa}(h:L[k]?=some l)(H:l.id∈gZ L k):gZ L (k+1)=gZ L k:=by simp[gZ,h,H]
def at6{L:ai}{k:Nat}{l:aa}(h:L[k]?=some l)(H:l.aB=false):rC L (k+1)=rC L k:=by unfold rC s4;rw[amK h H];simp[Tk,ahU h H]
def asn{L:ai}{id:Int}:∀(k:Nat),k<=I L->(id∈gZ L k↔ ∃j o,j<k/\sN L id o j):=by
 intro k
 induction k with
 |zero=>intro _;simp[gZ]
 |succ k g=>
  intro v;obtain⟨l,hl⟩:=aT (show k<I L by omega);have g:=g J;have O:(∃j o,j<k/\sN L id o j)->∃j o,j<k+1/\sN L id o j:=λ⟨j,o,m,H⟩=>⟨j,o,J,H⟩;cases f:l.aB with
  |false=>
   rw[amK hl f,g];refine⟨O,?_⟩;rintro⟨j,o,m,H⟩
   rcases mQ.1 m with h|rfl
   .exact⟨j,o,h,H⟩
   rw[ahU hl f]at H;cases H
  |true=>
   have n:id∈gZ L (k+1)↔(id∈gZ L k\/id=l.id):=by
    by_cases u:l.id∈gZ L k
    .rw[ahM hl u];exact⟨Or.inl,λh=>h.elim gi (λe=>e▸u)⟩
    rw[anx hl f u];simp
   rw[n,g];constructor
   .rintro (h|rfl)
    .exact O h
    exact⟨k,l.over,J,by rw[Ky hl f];simp⟩
   rintro⟨j,o,m,H⟩
   rcases mQ.1 m with h|rfl
   .exact Or.inl ⟨j,o,h,H⟩
   rw[Ky hl f]at H;simp only[c6,dk]at H;exact Or.inr H.1.symm
where gi {p:Prop} (h:p):p:=h
def HH{L:ai}{id:Int}{k:Nat}(h:k<=I L):id∈gZ L k↔ ∃j o,j<k/\sN L id o j:=asn k h
def T5(L:ai):∀k,(gZ L k).Nodup:=by
 intro k
 induction k with
 |zero=>simp[gZ]
 |succ k f=>
  unfold gZ;split
  .split
   .rename_i h;simp only[c6,jf,OC,decide_eq_false_iff_not]at h;rw[Cc];refine⟨f,aP,?_⟩;intro a g b H;simp only[rb]at H;subst H;rintro rfl
    exact h.2 g
   exact f
  exact f
def awR{L:ai}{k:Nat}(H:k<=I L){id:Int}(h:id∉gZ L k)(o:Bool):jr L k id o=none:=by
 cases f:jr L k id o with
 |none=>rfl
 |some j=>obtain⟨m,g⟩:=HB f;exact absurd ((HH H).2 ⟨j,o,m,g⟩) h
def ajr{L:ai}{k:Nat}(x:k<=I L){id:Int}(h:id∈gZ L k)(o:Bool)(u:jr L k id o=none):∃j m,jr L k id (!o)=some j/\L[j]?=some m/\j<k:=by
 obtain⟨j,O,g,H⟩:=(HH x).1 h;by_cases e:O=o
 .subst e;rw[Np u g]at H;cases H
 have e:O= !o:=by cases o<;>cases O<;>simp_all
 subst e;cases f:jr L k id (!o)with
 |none=>rw[Np f g]at H;cases H
 |some i=>obtain⟨n,y⟩:=HB f;obtain⟨m,v,_⟩:=C4 y;exact⟨i,m,rfl,v,n⟩
def afx{L:ai}{k:Nat}{l:aa}(h:L[k]?=some l)(f:l.aB){id:Int}(H:¬l.id=id)(o:Bool):jr L (k+1) id o=jr L k id o:=by rw[Tk,Ky h f];simp[H]
def X_{L:ai}{k:Nat}{l:aa}(h:L[k]?=some l)(f:l.aB)(H:jr L k l.id l.over=none):jr L (k+1) l.id l.over=some k:=by rw[Tk,Ky h f,H];simp
def acL{L:ai}{k:Nat}{l:aa}(h:L[k]?=some l)(H:l.aB):jr L (k+1) l.id (!l.over)=jr L k l.id (!l.over):=by rw[Tk,Ky h H];cases l.over<;>simp
def ajw{L:ai}{k:Nat}{l:aa}(h:L[k]?=some l)(f:l.aB){id:Int}(H:¬l.id=id):s4 L (k+1) id=s4 L k id:=by unfold s4;rw[afx h f H,afx h f H]
def awq{L:ai}{k:Nat}{l:aa}(h:L[k]?=some l)(f:l.aB)(g:l.id∉gZ L k):rC L (k+1)=rC L k++[(.int .i64 l.id,s4 L (k+1) l.id)]:=by unfold rC;rw[anx h f g,kP];congr 1;apply xx;intro id H;rw[ajw h f (by rintro rfl;exact g H)]
def av5{L:ai}{k:Nat}{l:aa}(h:L[k]?=some l)(f:l.aB)(g:l.id∈gZ L k):rC L (k+1)=(rC L k).set ((gZ L k).idxOf l.id) (.int .i64 l.id,s4 L (k+1) l.id):=by
 unfold rC;rw[ahM h g];apply xS
 .simp
 intro i H j;rw[I6];simp only[cY]at H;by_cases e:(gZ L k).idxOf l.id=i
 .subst e;simp only[C6,aD,R0]
 rw[aC e];simp only[C6];rw[ajw h f];intro E;apply e;rw[E];exact(T5 L k).idxOf_getElem i H
def aeJ(L:ai)(k:Nat)(q:Int):xY (.int .i64 q) (rC L k) 0=some (if q∈gZ L k then some ((gZ L k).idxOf q,s4 L k q)else none):=by unfold rC;rw[as5];simp
def J0{L:ai}{k:Nat}(H:k<I L)(h:pO L (an aa.aB L/2) k=false):oo L=false:=by have:(List.range (I L)).all (pO L (an aa.aB L/2))=false:=OM.2 ⟨k,gN.2 H,by simp[h]⟩;simp[oo,this]
def aac{L:ai}(H:an aa.aB L%2=0)(h:∀i,i<I L->pO L (an aa.aB L/2) i):oo L=(I (gZ L (I L))==an aa.aB L/2):=by have:(List.range (I L)).all (pO L (an aa.aB L/2)):=kr.2 λi f=>h i (gN.1 f);simp[oo,this,H]
abbrev aen(id:Nat):Prop:=id=3264320128\/kW id=114
def H5(F:Nat)(L:ai)(g:Nat)(f c9 j fB:dI)(h:aN)(v:V)(A:aN):Prop:=v=gE (oo L)/\dE aen h A/\(oo L->∃g1,A 3264320128=(g,some (.var (xz F L f c9 j (.nL 7296256064 g1) fB)))/\A 7296256064=(g1,some (.map true (rC L (I L)))))
def LR(j:Nat):decide ((0:Int)<=(j:Int))=true:=pA J
def DO:IntKind.i64.wrap 0=0:=U
def Cj:IntKind.i64.wrap 1=1:=U
def J4:((-1:Int)≥0)=False:=aP
def K0:((0:Int)<= -1)=False:=aP
def aro{al:cT}(O:al.ok 3264320128)(ok:∀id,kW id=114->al.ok id){aj:aN}{F:Nat}{L:ai}{c2 c9 c4 eT fB:dI}(hl:I L<=1000000)
  (B:aj 3264320128=(g,some (.var (xz F L c2 c9 c4 eT fB)))):∃v aq,lK S 114 [.one (.bm 3264320128 g 0)] al aj v aq/\H5 F L g c2 c9 c4 fB aj v aq:=by
 have M:=ok 7296256064 rfl;have E:=ok 7296448192 rfl;have A:=ok 7296704640 rfl;refine qK awN (jc rfl) ?_;have pc:=Xs F L hl;have cS:an aa.aB L<=I L:=o7 _ _;cases he:(((an aa.aB L%2:Nat):Int)!=0)with
 |true=>
  have D:oo L=false:=by
   have:(an aa.aB L%2==0)=false:=by simp at he |-;omega
   simp[oo,this]
  simp only[go_sem,abl,B,Fl,QB pc,k_,eH,he,O,M,E,A,af,ao];exact⟨by rw[D],dE.refl _ _,λy=>by rw[D]at y;cases y⟩
 |false=>
  have ac:an aa.aB L%2=0:=by simp at he;omega
  simp only[go_sem,abl,B,Fl,QB pc,k_,eH,he,O,M,E,A,af,ao];refine dy (λk h aq=>h 0=.one (.bm 3264320128 g 0)/\h 3=aH (an aa.aB L)/\h 25=.one (.p (eg L))/\h 26=aH (I L)/\h 27=aH k/\
   aq 3264320128=(g,some (.var (xz F L c2 c9 c4 (.nL 7296256064 ((aj 7296256064).1+1)) fB)))/\aq 7296256064=((aj 7296256064).1+1,some (.map true (rC L k)))/\
   (∀i,i<k->pO L (an aa.aB L/2) i)/\dE aen aj aq) 0 (I L) (cG _) ?_ ?_
  .simp only[go_sem,B,af,ao];refine⟨rfl,rfl,λi y=>absurd y (pG i),?_⟩;repeat(first|exact(dE.refl _ _)|refine dE.dx ?_ (by first|exact Or.inl rfl|exact Or.inr rfl) _)
  rintro k h aq hk ⟨Y,X,lO,A8,A9,B,T,aG,dz⟩
  have wq:IntKind.i64.wrap ((an aa.aB L/2:Nat):Int)=((an aa.aB L/2:Nat):Int):=wrap_small J;by_cases Z:k<I L
  .obtain⟨l,z⟩:=aT Z;have f:=gb z;have aM:((k:Int)<(I L:Int)):=J;have w1:=cN (n:=k) J;cases hc:(l.kind==2)with
   |false=>
    have N:l.aB=false:=hc;have hp:(l.kind !=2):=by simp[bne,hc]
    have jZ:pO L (an aa.aB L/2) k:=by simp[pO,z,N]
    simp only[go_sem,yn,Y,X,lO,A8,A9,B,T,f,dD,aa.ps,aM,hp,w1,O,M,E,A,af,ao];refine⟨Z,?_,?_,?_⟩
    .rw[at6 z N]
    .intro i f;rcases mQ.1 f with y|rfl
     .exact aG i y
     exact jZ
    repeat(first|exact dz|refine dE.dx ?_ (by first|exact Or.inl rfl|exact Or.inr rfl) _)
   |true=>
    have N:l.aB:=hc;have hp:(l.kind !=2)=false:=by simp[bne,hc]
    cases r1:decide (l.id<1)with
    |true=>have uG:l.id<1:=pJ r1;have ad:¬1<=l.id:=J;have D:=J0 Z (show pO L (an aa.aB L/2) k=false by simp[pO,z,N,ad]);simp only[go_sem,yn,Y,X,lO,A8,A9,B,T,f,dD,aa.ps,aM,hp,w1,uG,O,M,E,A,af,ao];unfold H5;refine⟨by rw[D],?_,λy=>by rw[D]at y;cases y⟩;repeat(first|exact dz|refine dE.dx ?_ (by first|exact Or.inl rfl|exact Or.inr rfl) _)
    |false=>
     have uG:¬l.id<1:=iY r1;have ag:1<=l.id:=J;cases r2:decide (((an aa.aB L/2:Nat):Int)<l.id)with
     |true=>have vt:((an aa.aB L/2:Nat):Int)<l.id:=pJ r2;have ar:¬l.id<=((an aa.aB L/2:Nat):Int):=J;have D:=J0 Z (show pO L (an aa.aB L/2) k=false by simp only[pO,z,N,ar];simp);simp only[go_sem,yn,Y,X,lO,A8,A9,B,T,f,dD,aa.ps,aM,hp,w1,uG,vt,fW,eH,wq,O,M,E,A,af,ao];unfold H5;refine⟨by rw[D],?_,λy=>by rw[D]at y;cases y⟩;repeat(first|exact dz|refine dE.dx ?_ (by first|exact Or.inl rfl|exact Or.inr rfl) _)
     |false=>
      have vt:¬((an aa.aB L/2:Nat):Int)<l.id:=iY r2;have ap:l.id<=((an aa.aB L/2:Nat):Int):=J;have x:=aeJ L k l.id;have qZ:pO L (an aa.aB L/2) k=((jr L k l.id l.over).isNone&&(match jr L k l.id (!l.over)with|some j=>Eg L j==l.sign|none=>true)):=by simp only[pO,z,N,ag,ap,decide_true];rfl
      by_cases hm:l.id∈gZ L k
      .rw[aD hm]at x;obtain⟨e0,av⟩:=aT (show(gZ L k).idxOf l.id<I (rC L k) by simp[rC];exact List.idxOf_lt_length_of_mem hm);have Ew:=av5 z N hm;have PA:s4 L k l.id=[.int .i64 (CC (jr L k l.id false)),.int .i64 (CC (jr L k l.id true))]:=rfl;rw[PA]at x;cases H:l.over with
       |true=>
        cases u:jr L k l.id true with
        |some j=>have D:=J0 Z (show pO L (an aa.aB L/2) k=false by rw[qZ,H,u];rfl);rw[u]at x;simp only[CC]at x;simp only[go_sem,yn,Y,X,lO,A8,A9,B,T,f,dD,aa.ps,aM,hp,w1,uG,vt,fW,eH,wq,x,H,LR,DO,Cj,nq,nc,kD,qk,sH,sa,Int.reduceNeg,Int.reduceSub,O,M,E,A,af,ao];refine⟨aA,aA,?_⟩;unfold H5;refine⟨by rw[D],?_,λy=>by rw[D]at y;cases y⟩;repeat(first|exact dz|refine dE.dx ?_ (by first|exact Or.inl rfl|exact Or.inr rfl) _)
        |none=>
         obtain⟨j,m,R,JI,am⟩:=ajr hk hm true u;have R:jr L k l.id false=some j:=R;have CR:=gb JI;have Ms:Eg L j=m.sign:=by simp[Eg,JI]
         rw[u,R]at x;simp only[CC]at x;cases ae:(m.sign==l.sign)with
         |false=>
          have iO:(m.sign !=l.sign):=by simp[bne,ae]
          have D:=J0 Z (show pO L (an aa.aB L/2) k=false by rw[qZ,H,u];simp only[BS,R,Ms,ae];rfl);simp only[go_sem,yn,Y,X,lO,A8,A9,B,T,f,dD,aa.ps,aM,hp,w1,uG,vt,fW,eH,wq,x,H,LR,J4,K0,CR,iO,DO,Cj,nq,nc,kD,qk,sH,sa,Int.reduceNeg,Int.reduceSub,O,M,E,A,af,ao];refine⟨aA,aA,?_⟩;unfold H5;refine⟨by rw[D],?_,λy=>by rw[D]at y;cases y⟩;repeat(first|exact dz|refine dE.dx ?_ (by first|exact Or.inl rfl|exact Or.inr rfl) _)
         |true=>
          have iO:(m.sign !=l.sign)=false:=by simp[bne,ae]
          have jZ:pO L (an aa.aB L/2) k:=by rw[qZ,H,u];simp only[BS,R,Ms,ae];rfl
          have ve:=X_ z N (show jr L k l.id l.over=none by rw[H];exact u);have Q:=acL z N;rw[H]at ve Q;rw[show jr L k l.id (!true)=some j from R]at Q;have ab:s4 L (k+1) l.id=[.int .i64 (j:Int),.int .i64 (k:Int)]:=by simp only[s4];rw[ve,show jr L (k+1) l.id false=some j from Q];rfl
          rw[ab]at Ew;simp only[go_sem,yn,Y,X,lO,A8,A9,B,T,f,dD,aa.ps,aM,hp,w1,uG,vt,fW,eH,wq,x,H,LR,J4,K0,CR,iO,DO,Cj,nq,nc,kD,qk,sH,sa,Int.reduceNeg,Int.reduceSub,O,M,E,A,af,ao];refine⟨aA,aA,aA,?_⟩;refine⟨Z,?_,?_,?_⟩
          .rw[Ew]
          .intro i f;rcases mQ.1 f with y|rfl
           .exact aG i y
           exact jZ
          repeat(first|exact dz|refine dE.dx ?_ (by first|exact Or.inl rfl|exact Or.inr rfl) _)
       |false=>
        cases u:jr L k l.id false with
        |some j=>have D:=J0 Z (show pO L (an aa.aB L/2) k=false by rw[qZ,H,u];rfl);rw[u]at x;simp only[CC]at x;simp only[go_sem,yn,Y,X,lO,A8,A9,B,T,f,dD,aa.ps,aM,hp,w1,uG,vt,fW,eH,wq,x,H,LR,DO,Cj,nq,nc,kD,qk,sH,sa,Int.reduceNeg,Int.reduceSub,O,M,E,A,af,ao];refine⟨aA,aA,?_⟩;unfold H5;refine⟨by rw[D],?_,λy=>by rw[D]at y;cases y⟩;repeat(first|exact dz|refine dE.dx ?_ (by first|exact Or.inl rfl|exact Or.inr rfl) _)
        |none=>
         obtain⟨j,m,R,JI,am⟩:=ajr hk hm false u;have R:jr L k l.id true=some j:=R;have CR:=gb JI;have Ms:Eg L j=m.sign:=by simp[Eg,JI]
         rw[u,R]at x;simp only[CC]at x;cases ae:(m.sign==l.sign)with
         |false=>
          have iO:(m.sign !=l.sign):=by simp[bne,ae]
          have D:=J0 Z (show pO L (an aa.aB L/2) k=false by rw[qZ,H,u];simp only[HG,R,Ms,ae];rfl);simp only[go_sem,yn,Y,X,lO,A8,A9,B,T,f,dD,aa.ps,aM,hp,w1,uG,vt,fW,eH,wq,x,H,LR,J4,K0,CR,iO,DO,Cj,nq,nc,kD,qk,sH,sa,Int.reduceNeg,Int.reduceSub,O,M,E,A,af,ao];refine⟨aA,aA,?_⟩;unfold H5;refine⟨by rw[D],?_,λy=>by rw[D]at y;cases y⟩;repeat(first|exact dz|refine dE.dx ?_ (by first|exact Or.inl rfl|exact Or.inr rfl) _)
         |true=>
          have iO:(m.sign !=l.sign)=false:=by simp[bne,ae]
          have jZ:pO L (an aa.aB L/2) k:=by rw[qZ,H,u];simp only[HG,R,Ms,ae];rfl
          have ve:=X_ z N (show jr L k l.id l.over=none by rw[H];exact u);have Q:=acL z N;rw[H]at ve Q;rw[show jr L k l.id (!false)=some j from R]at Q;have ab:s4 L (k+1) l.id=[.int .i64 (k:Int),.int .i64 (j:Int)]:=by simp only[s4];rw[ve,show jr L (k+1) l.id true=some j from Q];rfl
          rw[ab]at Ew;simp only[go_sem,yn,Y,X,lO,A8,A9,B,T,f,dD,aa.ps,aM,hp,w1,uG,vt,fW,eH,wq,x,H,LR,J4,K0,CR,iO,DO,Cj,nq,nc,kD,qk,sH,sa,Int.reduceNeg,Int.reduceSub,O,M,E,A,af,ao];refine⟨aA,aA,aA,?_⟩;refine⟨Z,?_,?_,?_⟩
          .rw[Ew]
          .intro i f;rcases mQ.1 f with y|rfl
           .exact aG i y
           exact jZ
          repeat(first|exact dz|refine dE.dx ?_ (by first|exact Or.inl rfl|exact Or.inr rfl) _)
      rw[aC hm]at x;have u:=awR hk hm;have qB:=awq z N hm;have jZ:pO L (an aa.aB L/2) k:=by rw[qZ,u,u];rfl
      have ve:=X_ z N (u _);have Q:=acL z N;rw[u]at Q;cases H:l.over with
      |true=>
       rw[H]at ve Q;have PA:s4 L (k+1) l.id=[.int .i64 (-1),.int .i64 (k:Int)]:=by simp only[s4];rw[ve,show jr L (k+1) l.id false=none from Q];rfl
       rw[PA]at qB;simp only[go_sem,yn,Y,X,lO,A8,A9,B,T,f,dD,aa.ps,aM,hp,w1,uG,vt,fW,eH,wq,x,H,J4,K0,DO,Cj,nq,nc,kD,qk,sH,sa,Int.reduceNeg,Int.reduceSub,O,M,E,A,af,ao];refine⟨aA,aA,aA,?_⟩;refine⟨Z,?_,?_,?_⟩
       .rw[qB]
       .intro i f;rcases mQ.1 f with y|rfl
        .exact aG i y
        exact jZ
       repeat(first|exact dz|refine dE.dx ?_ (by first|exact Or.inl rfl|exact Or.inr rfl) _)
      |false=>
       rw[H]at ve Q;have PA:s4 L (k+1) l.id=[.int .i64 (k:Int),.int .i64 (-1)]:=by simp only[s4];rw[ve,show jr L (k+1) l.id true=none from Q];rfl
       rw[PA]at qB;simp only[go_sem,yn,Y,X,lO,A8,A9,B,T,f,dD,aa.ps,aM,hp,w1,uG,vt,fW,eH,wq,x,H,J4,K0,DO,Cj,nq,nc,kD,qk,sH,sa,Int.reduceNeg,Int.reduceSub,O,M,E,A,af,ao];refine⟨aA,aA,aA,?_⟩;refine⟨Z,?_,?_,?_⟩
       .rw[qB]
       .intro i f;rcases mQ.1 f with y|rfl
        .exact aG i y
        exact jZ
       repeat(first|exact dz|refine dE.dx ?_ (by first|exact Or.inl rfl|exact Or.inr rfl) _)
  have:k=I L:=J;subst this;have hr:=aac ac aG;have im:I (rC L (I L))=I (gZ L (I L)):=by simp[rC]
  have hb:(((I (gZ L (I L)):Nat):Int)==((an aa.aB L/2:Nat):Int))=(I (gZ L (I L))==an aa.aB L/2):=by
   cases y:(I (gZ L (I L))==an aa.aB L/2)with
   |true=>simp at y |-;omega
   |false=>simp at y |-;omega
  simp only[go_sem,yn,agC,Y,X,A8,A9,B,T,eR,DO,Cj,nq,nc,kD,qk,sH,sa,Int.reduceNeg,Int.reduceSub,im,fW,eH,wq,hb,O,M,E,A,af,ao];exact⟨by rw[hr],dz,λ_=>⟨_,B,T⟩⟩
def IC{p:aa->Bool}{L:ai}{i:Nat}{l:aa}(h:L[i]?=some l)(hp:p l):an p L=1↔ ∀j m,L[j]?=some m->p m->j=i:=by
 obtain⟨n,e⟩:=cn.1 h;have ae:L=L.take i++l::L.drop (i+1):=by rw[<-e,tj];simp
 have v:an p L=an p (L.take i)+(an p (L.drop (i+1))+1):=by
  conv=>lhs;rw[ae]
  simp[an,um,tA,hp]
 constructor
 .intro u j m H f;have Z:an p (L.take i)=0:=J;have z:an p (L.drop (i+1))=0:=J;have Z:=Ho.1 Z;have z:=Ho.1 z;rcases LX j i with B|B|B
  .have:m∈L.take i:=bR (i:=j) (by rw[nE,aD B,H]);exact absurd f (Z m this)
  .exact B
  have:m∈L.drop (i+1):=bR (i:=j-(i+1)) (by rw[BY,show i+1+(j-(i+1))=j by omega,H]);exact absurd f (z m this)
 intro g;have Z:an p (L.take i)=0:=by
  refine Ho.2 λm f Q=>?_;obtain⟨j,H⟩:=j9 f;have B:j<i:=by have:=(cn.1 H).1;rw[gX]at this;omega
  rw[nE,aD B]at H;have:=g j m H Q;omega
 have z:an p (L.drop (i+1))=0:=by refine Ho.2 λm f Q=>?_;obtain⟨j,H⟩:=j9 f;rw[BY]at H;have:=g _ m H Q;omega
 omega
def aqF{p:aa->Bool}{L:ai}(h:∀(i j:Nat) (l m:aa),L[i]?=some l->L[j]?=some m->p l->p m->i=j):an p L<=1:=by
 by_cases n:an p L=0
 .omega
 have:0<L.countP p:=Nat.pos_of_ne_zero n;obtain⟨l,hl,hp⟩:=At.1 this;obtain⟨i,H⟩:=j9 hl;have:=(IC H hp).2 λj m g f=>h j i m l g H f hp;omega
structure tq (F:Nat) (ls:ai) (l:aa):Prop where
 g0:0<=l.gate
 g1:l.gate<=(F:Int)
 r0:1<=l.ay
 r1:l.ay<=(bU ls l.gate.toNat:Int)
def GO{L:ai}{l m:aa}(hl:tq F L l)(f:tq F L m):fD L l=fD L m↔l.gate=m.gate/\l.ay=m.ay:=by
 obtain⟨x,y,A,j⟩:=hl;obtain⟨u,M,n,z⟩:=f;unfold fD;constructor
 .intro h;have sl:=tX L l.gate.toNat;have v:=tX L m.gate.toNat;rcases LX l.gate.toNat m.gate.toNat with c|c|c
  .have:=Bz (L:=L) (show l.gate.toNat+1<=m.gate.toNat by omega);omega
  .rw[c]at h;omega
  have:=Bz (L:=L) (show m.gate.toNat+1<=l.gate.toNat by omega);omega
 rintro⟨g,H⟩;rw[g,H]
def ahd{L:ai}{l m:aa}(hl:tq F L l)(h:tq F L m):Fk l m↔fD L l<fD L m:=by
 obtain⟨g,j,y,f⟩:=hl;obtain⟨v,M,n,u⟩:=h;unfold fD Fk;simp only[pB,c6,iI,dk];have sl:=tX L l.gate.toNat;have x:=tX L m.gate.toNat;rcases LX l.gate.toNat m.gate.toNat with c|c|c
 .have:=Bz (L:=L) (show l.gate.toNat+1<=m.gate.toNat by omega);omega
 .rw[c];omega
 have:=Bz (L:=L) (show m.gate.toNat+1<=l.gate.toNat by omega);omega
def V6{L:ai}{l:aa}(hl:tq F L l):fD L l<hJ L (F+1):=by obtain⟨g,h,j,f⟩:=hl;unfold fD;have sl:=tX L l.gate.toNat;have:=Bz (L:=L) (show l.gate.toNat+1<=F+1 by omega);omega
def Rf{L:ai}{i:Nat}{l:aa}(h:L[i]?=some l)(hp:l.aI):ur L i↔1<=l.ay/\l.ay<=(bU L l.gate.toNat:Int)/\ ∀j m,j<i->L[j]?=some m->m.aI->fD L m≠fD L l:=by
 simp only[ur,h,hp,BS,Di,c6,iI,jf,E6,gN];constructor
 .rintro ⟨⟨n,g⟩,u⟩
  refine⟨n,g,λj m f H Q e=>?_⟩;have:=u j f;rw[Og H Q]at this;simp[e]at this
 rintro⟨n,g,u⟩
 refine⟨⟨n,g⟩,λj f=>?_⟩;unfold ub;split
 .rename_i m H;cases Q:m.aI with
  |false=>simp
  |true=>simpa using u j m f H Q
 simp
def NG{L:ai}(f:tE F L):zJ L↔(∀l∈L,l.aI->tq F L l)/\ ∀(i j:Nat) (l m:aa),L[i]?=some l->L[j]?=some m->l.aI->m.aI->fD L l=fD L m->i=j:=by
 unfold zJ;rw[kr];constructor
 .intro h;refine⟨λl hl hp=>?_,λi j l m H g B Q e=>?_⟩
  .obtain⟨i,H⟩:=j9 hl;have:=(Rf H hp).1 (h i (gN.2 (cn.1 H).1));exact⟨(f l hl hp).1,(f l hl hp).2,this.1,this.2.1⟩
  have u:=(Rf H B).1 (h i (gN.2 (cn.1 H).1));have x:=(Rf g Q).1 (h j (gN.2 (cn.1 g).1));rcases LX i j with c|c|c
  .exact absurd e (x.2.2 i l c H B)
  .exact c
  exact absurd e.symm (u.2.2 j m c g Q)
 rintro⟨y,n⟩ i H
 obtain⟨l,hl⟩:=aT (gN.1 H);cases hp:l.aI with
 |false=>simp[ur,hl,hp]
 |true=>have f:=y l (bR hl) hp;refine(Rf hl hp).2 ⟨f.r0,f.r1,λj m g v Q e=>?_⟩;have:=n j i m l v hl Q hp e;omega
def O4(g:Int)(h:0<=g)(l:aa):pQ g l=oQ g.toNat l:=by unfold pQ oQ;rw[RL h]
def oX{l:aa}(hp:l.aI):ek f l=false↔(((0<=l.gate/\l.gate<=f)/\l.id=0)/\l.sign=0)/\l.over=false:=by unfold aa.aI at hp;simp only[ek,hp,if_true,II,decide_eq_false_iff_not,bne_eq_false_iff_eq,Int.not_lt]
def Mz{L:ai}{l:aa}(hp:l.aI):x_ f L l↔ek f l=false/\1<=l.ay/\l.ay<=(an (pQ l.gate) L:Int)/\an (lk l) L=1:=by
 rw[oX hp];unfold x_;simp only[jf,II,decide_eq_false_iff_not,bne_eq_false_iff_eq];constructor
 .rintro ⟨⟨⟨⟨⟨⟨⟨a,b⟩,c⟩,d⟩,e⟩,g⟩,h⟩,i⟩
  exact⟨⟨⟨⟨⟨J,J⟩,a⟩,b⟩,c⟩,J,J,J⟩
 rintro⟨⟨⟨⟨⟨d,e⟩,a⟩,b⟩,c⟩,g,h,i⟩
 exact⟨⟨⟨⟨⟨⟨⟨a,b⟩,c⟩,J⟩,J⟩,J⟩,J⟩,J⟩
def Vs{l m:aa}(hp:l.aI):lk l m↔m.aI=true/\m.gate=l.gate/\m.ay=l.ay:=by unfold aa.aI at hp |-;simp only[dk]at hp;unfold lk;simp only[c6,dk,hp,and_assoc]
def ay0{L:ai}:(∀l∈L,l.aI->x_ F L l)↔(∀l∈L,l.aI->ek F l=false)/\zJ L:=by
 constructor
 .intro h;have v:∀l∈L,l.aI->ek F l=false:=λl hl hp=>((Mz hp).1 (h l hl hp)).1;have n:tE F L:=λl hl hp=>((oX hp).1 (v l hl hp)).1.1.1;refine⟨v,(NG n).2 ⟨λl hl hp=>?_,λi j l m u f B Q e=>?_⟩⟩
  .obtain⟨_,H,x,_⟩:=(Mz hp).1 (h l hl hp);have:=n l hl hp;refine⟨this.1,this.2,H,?_⟩;have e:an (pQ l.gate) L=bU L l.gate.toNat:=by unfold bU an;congr 1;funext m;exact O4 _ this.1 m
   omega
  have g:tq F L l:=by
   obtain⟨_,H,x,_⟩:=(Mz B).1 (h l (bR u) B);have:=n l (bR u) B;have e:an (pQ l.gate) L=bU L l.gate.toNat:=by unfold bU an;congr 1;funext m;exact O4 _ this.1 m
   exact⟨this.1,this.2,H,J⟩
  have D:tq F L m:=by
   obtain⟨_,H,x,_⟩:=(Mz Q).1 (h m (bR f) Q);have:=n m (bR f) Q;have e:an (pQ m.gate) L=bU L m.gate.toNat:=by unfold bU an;congr 1;funext m;exact O4 _ this.1 m
   exact⟨this.1,this.2,H,J⟩
  have E:=(GO g D).1 e;have ae:=((Mz Q).1 (h m (bR f) Q)).2.2.2;exact(IC f ((Vs Q).2 ⟨Q,rfl,rfl⟩)).1 ae i l u ((Vs Q).2 ⟨B,E.1,E.2⟩)
 rintro⟨v,z⟩ l hl hp
 have n:tE F L:=λl hl hp=>((oX hp).1 (v l hl hp)).1.1.1;obtain⟨y,H⟩:=(NG n).1 z;have g:=y l hl hp;have e:an (pQ l.gate) L=bU L l.gate.toNat:=by unfold bU an;congr 1;funext m;exact O4 _ g.g0 m
 obtain⟨i,u⟩:=j9 hl;refine(Mz hp).2 ⟨v l hl hp,g.r0,by rw[e];exact g.r1,(IC u ((Vs hp).2 ⟨hp,rfl,rfl⟩)).2 λj m f ae=>?_⟩;obtain⟨Q,M,A⟩:=(Vs hp).1 ae;exact H j i m l f u Q hp ((GO (y m (bR f) Q) g).2 ⟨M,A⟩)
def tT(id:Int)(o:Bool)(l:aa):Bool:=l.aB&&(l.id==id&&l.over==o)
def KL{L:ai}{m:aa}(h:L[j]?=some m)(id:Int)(o:Bool):sN L id o j=tT id o m:=by simp[sN,tT,h]
def sJ{id:Int}{o:Bool}{l:aa}:tT id o l↔l.aB=true/\l.id=id/\l.over=o:=by unfold tT;simp only[c6,dk]
def Hn(L:ai):Prop:=∀(i j:Nat) (l m:aa),L[i]?=some l->L[j]?=some m->l.aB->m.aB->l.id=m.id->i≠j->l.over≠m.over/\l.sign=m.sign
def aaz(L:ai):Prop:=∀l∈L,l.aB->1<=l.id/\l.id<=((an aa.aB L/2:Nat):Int)
def agf{L:ai}{n k:Nat}{l:aa}(h:L[k]?=some l)(u:l.aB):pO L n k↔(1<=l.id/\l.id<=(n:Int))/\jr L k l.id l.over=none/\ ∀j,jr L k l.id (!l.over)=some j->Eg L j=l.sign:=by
 simp only[pO,h,u,BS,Di,c6,iI,Option.isNone_iff_eq_none];constructor
 .rintro ⟨m,g,H⟩
  refine⟨m,g,λj f=>?_⟩;rw[f]at H
  simpa using H
 rintro⟨m,g,H⟩
 refine⟨m,g,?_⟩;split
 .rename_i j f
  simpa using H j f
 rfl
def IQ{L:ai}:(∀k,k<I L->pO L (an aa.aB L/2) k)↔aaz L/\Hn L:=by
 constructor
 .intro h;have Q:∀ {k:Nat}{l:aa},L[k]?=some l->l.aB->_:=λ{k l} F g=>(agf (n:=an aa.aB L/2) F g).1 (h k (cn.1 F).1);refine⟨λl hl g=>?_,?_⟩
  .obtain⟨i,H⟩:=j9 hl;exact(Q H g).1
  have B:∀(i j:Nat) (l m:aa),L[i]?=some l->L[j]?=some m->l.aB->m.aB->l.id=m.id->i<j->l.over≠m.over/\l.sign=m.sign:=by
   intro i j l m H z u N v M;obtain⟨_,hn,ae⟩:=Q z N;have X:l.over≠m.over:=by intro e;have:=Np hn M;rw[KL H,sJ.2 ⟨u,v,e⟩]at this;cases this
   refine⟨X,?_⟩;have O:l.over= !m.over:=by revert X;cases l.over<;>cases m.over<;>simp
   cases y:jr L j m.id (!m.over)with
   |none=>have:=Np y M;rw[KL H,sJ.2 ⟨u,v,O⟩]at this;cases this
   |some p=>
    have h3:=ae p y;obtain⟨Y,E⟩:=HB y;obtain⟨x,n,D,A,f⟩:=C4 E;have:p=i:=by
     rcases LX p i with c|c|c
     .have ni:=(Q H u).2.1;have:=Np ni c;rw[KL n,sJ.2 ⟨D,by rw[A,v],by rw[f,O]⟩]at this;cases this
     .exact c
     have T:(List.range j).find? (sN L m.id (!m.over))=some p:=y;rw[List.find?_range_eq_some]at T;have:=T.2.2 i c;rw[KL H,sJ.2 ⟨u,v,O⟩]at this;cases this
    subst this;rw[H]at n;cases n
    simpa [Eg,H]using h3
  intro i j l m H z u N v M;rcases aaV M with c|c
  .exact B i j l m H z u N v c
  have:=B j i m l z H N u v.symm c;exact⟨λe=>this.1 e.symm,this.2.symm⟩
 rintro⟨Z,R⟩ k F
 obtain⟨l,hl⟩:=aT F;cases g:l.aB with
 |false=>simp[pO,hl,g]
 |true=>
  refine(agf hl g).2 ⟨Z l (bR hl) g,?_,λj z=>?_⟩
  .cases y:jr L k l.id l.over with
   |none=>rfl
   |some p=>obtain⟨Y,E⟩:=HB y;obtain⟨x,n,D,A,f⟩:=C4 E;exact absurd f (R p k x l n hl D g A J).1
  obtain⟨Y,E⟩:=HB z;obtain⟨x,n,D,A,f⟩:=C4 E;have:=(R j k x l n hl D g A J).2;simp[Eg,n,this]
def azz(L:ai):∀ids:dd,ids.Nodup->(ids.map λid=>an (oI id) L).sum=an (λl=>l.aB&&ids.contains l.id) L:=by
 intro ids
 induction ids with
 |nil=>intro _;simp[an]
 |cons a ids g=>
  intro f;rw[nR]at f;rw[eJ,Ow,g f.2];refine(adb (p:=oI a) (q:=λl=>l.aB&&ids.contains l.id) (r:=λl=>l.aB&&(a::ids).contains l.id) ?_ ?_ L).symm
  .intro l;simp only[oI,c6,dk,OC,iI,dr];constructor
   .rintro ⟨H,h|h⟩
    .exact .inl ⟨H,h⟩
    exact .inr ⟨H,h⟩
   rintro(⟨H,h⟩|⟨H,h⟩)
   .exact⟨H,.inl h⟩
   exact⟨H,.inr h⟩
  intro l;simp only[oI,c6,dk,OC,iI];rintro⟨_,H⟩ ⟨_,h⟩
  exact f.1 (H▸h)
def U1{L:ai}{l:aa}(hl:l∈L)(H:l.aB):l.id∈gZ L (I L):=by obtain⟨i,h⟩:=j9 hl;refine(HH (c3 _)).2 ⟨i,l.over,(cn.1 h).1,?_⟩;rw[KL h];exact sJ.2 ⟨H,rfl,rfl⟩
def Xm(L:ai):((gZ L (I L)).map λid=>an (oI id) L).sum=an aa.aB L:=by
 rw[azz _ _ (T5 L _)];apply LM;intro l hl;cases h:l.aB with
 |false=>simp
 |true=>simp[U1 hl h]
def Q3(id:Int)(L:ai):an (oI id) L=an (tT id true) L+an (tT id false) L:=by
 refine adb ?_ ?_ L
 .intro l;rw[sJ,sJ];simp only[oI,c6,dk];cases l.over<;>simp
 intro l;rw[sJ,sJ];rintro⟨_,_,H⟩ ⟨_,_,h⟩
 rw[H]at h;cases h
def acV(id:Int)(o:Bool)(L:ai):an (oI id) L=an (tT id o) L+an (tT id (!o)) L:=by
 rw[Q3];cases o with
 |true=>rfl
 |false=>simp only[HG];omega
def Dk{L:ai}(h:Hn L)(id:Int)(o:Bool):an (tT id o) L<=1:=by refine aqF λi j l m H u hl n=>?_;obtain⟨v,x,y⟩:=sJ.1 hl;obtain⟨g,M,f⟩:=sJ.1 n;refine Decidable.byContradiction λA=>?_;exact(h i j l m H u v g (by rw[x,M]) A).1 (by rw[y,f])
def alR{f:Int->Nat}:∀ids:dd,(∀x∈ids,f x<=2)->(ids.map f).sum<=2*I ids:=by
 intro ids
 induction ids with
 |nil=>intro _;simp
 |cons a ids g=>intro h;have:=g λx H=>h x (yc _ H);have:=h a EG;simp only[eJ,Ow,dW];omega
def anC{f:Int->Nat}:∀ids:dd,(∀x∈ids,f x<=2)->(ids.map f).sum=2*I ids->∀x∈ids,f x=2:=by
 intro ids
 induction ids with
 |nil=>intro _ _ x H;cases H
 |cons a ids g=>
  intro h ae;have m:=alR ids λx H=>h x (yc _ H);have j:=h a EG;simp only[eJ,Ow,dW]at ae;intro x H;rcases dr.1 H with rfl|H
  .omega
  exact g (λx H=>h x (yc _ H)) J x H
def aBm{f:Int->Nat}:∀ids:dd,(∀x∈ids,f x=2)->(ids.map f).sum=2*I ids:=by
 intro ids
 induction ids with
 |nil=>intro _;simp
 |cons a ids g=>intro h;have:=g λx H=>h x (yc _ H);have:=h a EG;simp only[eJ,Ow,dW];omega
def ab0{l m:aa}(h:l.aB):kE l m↔m.aB=true/\m.id=l.id/\m.sign=l.sign/\m.over= !l.over:=by unfold aa.aB at h |-;simp only[dk]at h;unfold kE;simp only[c6,dk,h,and_assoc,jf,sK,ne_eq];cases l.over<;>cases m.over<;>simp
def Ou{l:aa}(h:l.aB):ek f l=false↔(l.gate=0/\l.ay=0)/\(l.sign !=1&&l.sign != -1)=false:=by
 unfold aa.aB at h;have H:(l.kind==1)=false:=by simp only[dk]at h;rw[h];rfl
 simp only[ek,h,H,if_true,II,bne_eq_false_iff_eq];simp
def ajZ{L:ai}{l:aa}(H:l.aB):oZ L l↔ek f l=false/\(1<=l.id/\l.id<=((an aa.aB L/2:Nat):Int))/\an (kE l) L=1/\an (oI l.id) L=2:=by
 rw[Ou H];unfold oZ;simp only[jf,II,decide_eq_false_iff_not,bne_eq_false_iff_eq];constructor
 .rintro ⟨⟨⟨⟨⟨⟨a,b⟩,c⟩,d⟩,e⟩,g⟩,h⟩
  exact⟨⟨⟨a,b⟩,c⟩,⟨J,J⟩,J,J⟩
 rintro⟨⟨⟨a,b⟩,c⟩,⟨d,e⟩,g,h⟩
 exact⟨⟨⟨⟨⟨⟨a,b⟩,c⟩,J⟩,J⟩,J⟩,J⟩
def aCQ{L:ai}:(∀l∈L,l.aB->oZ L l)↔(∀l∈L,l.aB->ek f l=false)/\oo L:=by
 have Qf:=Xm L;constructor
 .intro h;have E:=λl hl H=>(ajZ (f:=f) H).1 (h l hl H);have hp:Hn L:=by
   intro i j l m n z D Bf Y gI;obtain⟨_,_,h3,h4⟩:=E l (bR n) D;have e1:=acV l.id l.over L;have g1:0<an (tT l.id l.over) L:=At.2 ⟨l,bR n,sJ.2 ⟨D,rfl,rfl⟩⟩;obtain⟨x,v,M⟩:=At.1 (show 0<L.countP (kE l) by show 0<an (kE l) L;omega);obtain⟨B,X,F,x4⟩:=(ab0 D).1 M;have u:0<an (tT l.id (!l.over)) L:=At.2 ⟨x,v,sJ.2 ⟨B,X,x4⟩⟩;have u1:an (tT l.id l.over) L=1:=J;have Q:an (tT l.id (!l.over)) L=1:=J;have ho:l.over≠m.over:=by intro e;have:=(IC n (sJ.2 ⟨D,rfl,rfl⟩)).1 u1 j m z (sJ.2 ⟨Bf,Y.symm,e.symm⟩);exact gI this.symm
   refine⟨ho,?_⟩;have nX:m.over= !l.over:=by revert ho;cases l.over<;>cases m.over<;>simp
   obtain⟨p,g⟩:=j9 v;have:=(IC z (sJ.2 ⟨Bf,Y.symm,nX⟩)).1 Q p x g (sJ.2 ⟨B,X,x4⟩);subst this;rw[g]at z;cases z;exact F.symm
  have O:∀id∈gZ L (I L),an (oI id) L=2:=by intro id y;obtain⟨j,o,h1,N⟩:=(HH (c3 _)).1 y;obtain⟨m,T,H,n,_⟩:=C4 N;rw[<-n];exact(E m (bR T) H).2.2.2
  rw[aBm _ O]at Qf;refine⟨λl hl H=>(E l hl H).1,?_⟩;have v:=(IQ (L:=L)).2 ⟨λl hl H=>(E l hl H).2.1,hp⟩;rw[aac J v];simp only[dk];omega
 rintro⟨hb,R⟩ l hl H
 unfold oo at R;simp only[c6,dk,kr,gN]at R;obtain⟨⟨Y,v⟩,A⟩:=R;obtain⟨y,hp⟩:=IQ.1 v;have Z:∀id∈gZ L (I L),an (oI id) L<=2:=λid _=>by rw[Q3 id];have:=Dk hp id true;have:=Dk hp id false;omega
 have N:=anC _ Z (by rw[Qf,A];omega) l.id (U1 hl H);have e1:=acV l.id l.over L;have b1:=Dk hp l.id l.over;have b2:=Dk hp l.id (!l.over);refine(ajZ H).2 ⟨hb l hl H,y l hl H,?_,N⟩;have Q:an (tT l.id (!l.over)) L=1:=J;obtain⟨i,n⟩:=j9 hl;obtain⟨x,v,M⟩:=At.1 (show 0<L.countP (tT l.id (!l.over)) by show 0<an (tT l.id (!l.over)) L;omega);obtain⟨p,g⟩:=j9 v;obtain⟨B,X,F⟩:=sJ.1 M;have ji:p≠i:=by
  rintro rfl
  rw[n]at g;cases g;revert F;cases l.over<;>simp
 have Ih:=(hp p i x l g n B H X ji).2;refine(IC g ((ab0 H).2 ⟨B,X,Ih,F⟩)).2 λj m z T=>?_;obtain⟨m1,m2,m3,m4⟩:=(ab0 H).1 T;exact(IC g M).1 Q j m z (sJ.2 ⟨m1,m2,m4⟩)
def Dg{l:aa}(h:ek f l=false):l.aI\/l.aB:=by
 unfold aa.aI aa.aB;cases H:(l.kind==1)with
 |true=>exact .inl rfl
 |false=>
  cases g:(l.kind==2)with
  |true=>exact .inr rfl
  |false=>simp only[ek,H,g]at h;cases h
def pR{l:aa}(hp:l.aI):l.aB=false:=by unfold aa.aI at hp;unfold aa.aB;simp only[dk]at hp;rw[hp];rfl
def ake{L:ai}{l:aa}(hp:l.aI):gU f L l=x_ f L l:=by unfold aa.aI at hp;simp only[gU,hp,if_true]
def ank{L:ai}{l:aa}(hp:l.aB):gU f L l=oZ L l:=by
 unfold aa.aB at hp;have h:(l.kind==1)=false:=by simp only[dk]at hp;rw[hp];rfl
 simp only[gU,hp,h,if_true];simp
def aaU{L:ai}:yg F L↔L.any (ek F)=false/\zJ L/\oo L:=by
 unfold yg;rw[kr,E6];have E:=ay0 (F:=F) (L:=L);have j:=aCQ (f:=(F:Int)) (L:=L);constructor
 .intro h;have y:=λ{l:aa} (hl:l∈L)=>anK (f:=F) (L:=L) (kr.2 h) (j9 hl).choose_spec;obtain⟨u,v⟩:=E.1 λl hl hp=>by rw[<-ake hp];exact h l hl
  obtain⟨z,m⟩:=j.1 λl hl g=>by rw[<-ank (f:=F) g];exact h l hl
  refine⟨λl hl=>?_,v,m⟩;rcases y hl with hp|g
  .rw[u l hl hp];simp
  rw[z l hl g];simp
 rintro⟨H,x,g⟩ l hl
 have H:∀l∈L,ek F l=false:=λl hl=>by simpa using H l hl
 rcases Dg (H l hl)with hp|n
 .rw[ake hp];exact E.2 ⟨λl hl _=>H l hl,x⟩ l hl hp
 rw[ank n];exact j.2 ⟨λl hl _=>H l hl,g⟩ l hl n
def aBM{o:aF}(ae:o.Pairwise (· < ·))(A:∀x∈o,x<I o):∀(k:Nat) (h:k<I o),o[k]=k:=by
 rw[M3]at ae;have lo:∀(k:Nat) (h:k<I o),k<=o[k]:=by
  intro k
  induction k with
  |zero=>intro _;omega
  |succ k f=>intro h;have:=f J;have:=ae k (k+1) J h J;omega
 have H:∀(d k:Nat) (h:k<I o),k+d+1=I o->o[k]<=k:=by
  intro d
  induction d with
  |zero=>intro k h e;have:=A _ (List.getElem_mem h);omega
  |succ d f=>intro k h e;have:=f (k+1) J J;have:=ae k (k+1) h J J;omega
 intro k h;have:=lo k h;have:=H (I o-k-1) k h J;omega
def aAv{f:Nat->Nat}{p:Nat->Bool}{i:Nat}:∀ {o:aF},o.Pairwise (λa b=>f a<f b)->(∀x∈o,p x=decide (f x<f i))->(∀x∈o,f x≠f i)->
  (o.take (I (o.takeWhile p))++i::o.drop (I (o.takeWhile p))).Pairwise (λa b=>f a<f b):=by
 intro o
 induction o with
 |nil=>intro _ _ _;simp
 |cons a o m=>
  intro ae hp g;rw[ot]at ae;have j:=hp a EG;have n:=g a EG;by_cases A:f a<f i
  .have M:p a:=by rw[j];simpa using A
   rw[List.takeWhile_cons,aD M];simp only[dW,Fo,List.drop_succ_cons,Bv];rw[ot];refine⟨λb h=>?_,m ae.2 (λx H=>hp x (yc _ H)) (λx H=>g x (yc _ H))⟩;rcases iW.1 h with h|h
   .exact ae.1 b (wu h)
   rcases dr.1 h with rfl|h
   .exact A
   exact ae.1 b (v7 h)
  have M:¬p a=true:=by rw[j];simpa using A
  rw[List.takeWhile_cons,aC M];simp only[fU,Od,Lm,iZ];rw[ot,ot];refine⟨λb h=>?_,ae⟩;rcases dr.1 h with rfl|h
  .omega
  have:=ae.1 b h;omega
def Jd{L:ai}{i:Nat}{l:aa}(h:L[i]?=some l)(hp:l.aI):Dj L i=fD L l:=by simp[Dj,h,hp]
structure Ee (F:Nat) (ls:ai):Prop where
 fG:∀l∈ls,l.aI->tq F ls l
 inj:∀(i j:Nat) (l m:aa),ls[i]?=some l->ls[j]?=some m->l.aI->m.aI->fD ls l=fD ls m->i=j
def agH{L:ai}(h:Ee F L):∀k,k<=I L->(qR L k).Pairwise (λa b=>Dj L a<Dj L b):=by
 intro k
 induction k with
 |zero=>intro _;simp[qR]
 |succ k j=>
  intro y;have j:=j J;rw[LV];obtain⟨l,hl⟩:=aT (show k<I L by omega);unfold Ca;rw[hl];simp only;cases hp:l.aI with
  |false=>simpa using j
  |true=>
   simp only[if_true];unfold BF;have H:=λ{x:Nat} (g:x∈qR L k)=>(afo (L:=L) (k:=k) J).1 g;refine aAv j (λx g=>?_) (λx g e=>?_)
   .obtain⟨u,m,H,f⟩:=H g;rw[Jd H f,Jd hl hp];unfold C5;rw[H,hl];simp only;have:=ahd (h.fG m (bR H) f) (h.fG l (bR hl) hp);cases n:Fk m l with
    |true=>simpa using this.1 n
    |false=>symm;rw[decide_eq_false_iff_not];intro v;rw[this.2 v]at n;cases n
   obtain⟨u,m,H,f⟩:=H g;rw[Jd H f,Jd hl hp]at e;have:=h.inj x k m l H hl f hp e;omega
def aql{L:ai}:∀k,k<=I L->I (qR L k)=an aa.aI (L.take k):=by
 intro k
 induction k with
 |zero=>intro _;simp[qR,an]
 |succ k f=>
  intro h;have f:=f J;rw[LV];obtain⟨l,hl⟩:=aT (show k<I L by omega);unfold Ca;rw[hl];simp only;cases hp:l.aI with
  |false=>rw[mH hl hp];simpa using f
  |true=>simp only[if_true];rw[aw5,uf hl hp,f]
def Lb{L:ai}:I (aE L)=an aa.aI L:=by have:=aql (L:=L) (I L) (c3 _);rwa[lA]at this
def E4{L:ai}(h:tE F L):hJ L (F+1)=I (aE L):=by
 rw[Lb,amQ];apply LM;intro l hl;cases hp:l.aI with
 |false=>simp
 |true=>have:=h l hl hp;simp only[sf,c6,iI,iff_true];omega
def Ee.tE{L:ai}(h:Ee F L):tE F L:=λl hl hp=>⟨(h.fG l hl hp).g0,(h.fG l hl hp).g1⟩
def yz{L:ai}(h:Ee F L){k i:Nat}(H:(aE L)[k]?=some i):∃l,L[i]?=some l/\l.aI/\fD L l=k:=by
 have ae:((aE L).map (Dj L)).Pairwise (· < ·):=by rw[zk];exact agH h (I L) (c3 _)
 have u:=E4 h.tE;have A:∀x∈(aE L).map (Dj L),x<I ((aE L).map (Dj L)):=by intro x m;obtain⟨j,n,rfl⟩:=dY.1 m;obtain⟨l,hl,hp⟩:=uk.1 n;rw[Jd hl hp,cY,<-u];exact V6 (h.fG l (bR hl) hp)
 obtain⟨g,f⟩:=cn.1 H;have:=aBM ae A k (by rw[cY];exact g);rw[C6,f]at this;obtain⟨l,hl,hp⟩:=uk.1 (bR H);exact⟨l,hl,hp,by rw[<-Jd hl hp];exact this⟩
def Z1{L:ai}(h:Ee F L){i:Nat}{l:aa}(hl:L[i]?=some l)(hp:l.aI):(aE L)[fD L l]?=some i:=by have A:=V6 (h.fG l (bR hl) hp);rw[E4 h.tE]at A;obtain⟨j,H⟩:=aT A;obtain⟨m,f,n,g⟩:=yz h H;rw[H,h.inj j i m l f hl n hp g]
def NP{L:ai}(h:Ee F L){i:Nat}{l:aa}(hl:L[i]?=some l)(hp:l.aI):(aE L).idxOf i=fD L l:=by have j:=Z1 h hl hp;have f:=ak3 (bR j);obtain⟨m,H,n,g⟩:=yz h f;rw[hl]at H;cases H;exact g.symm
def aC0{L:ai}(h:Ee F L):uy L (hJ L (F+1)) (I L)=aE L:=by
 apply xS
 .rw[ak0,E4 h.tE]
 intro k x u;simp only[uy,C6,Hq];obtain⟨l,hl,hp,f⟩:=yz h (ue u);generalize(aE L)[k]=i at hl;unfold NC;have N:=(cn.1 hl).1;have n:(List.range (I L)).find? (ub L k)=some i:=by
  refine AR N (λj v=>?_) ?_
  .cases H:ub L k j with
   |false=>rfl
   |true=>
    unfold ub at H;split at H
    .rename_i m g;simp only[c6,dk]at H;have:=h.inj j i m l g hl H.1 hp (by rw[H.2,f]);omega
    cases H
  rw[Og hl hp];simp[f]
 rw[n];rfl
def RZ{L:ai}(A:oo L){i:Nat}{l:aa}(hl:L[i]?=some l)(R:l.aB):jr L (I L) l.id (!l.over)=some (i_ L i)/\i_ L i<I L:=by
 have Qf:=Xm L;unfold oo at A;simp only[c6,dk,kr,gN]at A;obtain⟨⟨he,D⟩,g⟩:=A;obtain⟨ab,hp⟩:=IQ.1 D;have E:∀id∈gZ L (I L),an (oI id) L<=2:=λid _=>by rw[Q3 id];have:=Dk hp id true;have:=Dk hp id false;omega
 have H:=anC _ E (by rw[Qf,g];omega) l.id (U1 (bR hl) R);have e1:=acV l.id l.over L;have b1:=Dk hp l.id l.over;have b2:=Dk hp l.id (!l.over);obtain⟨x,D,N⟩:=At.1 (show 0<L.countP (tT l.id (!l.over)) by show 0<an (tT l.id (!l.over)) L;omega);obtain⟨p,f⟩:=j9 D;obtain⟨Q,F,X⟩:=sJ.1 N;have h:=(cn.1 f).1;have T:p≠i:=by
  rintro rfl
  rw[hl]at f;cases f;revert X;cases l.over<;>simp
 have u:∀(j:Nat) (m:aa),L[j]?=some m->m.aB->m.id=l.id->j≠i->j=p:=by intro j m z M y B;refine Decidable.byContradiction λaO=>?_;have o1:=(hp j i m l z hl M R y B).1;have O:=(hp j p m x z f M Q (by rw[y,F]) aO).1;rw[X]at O;revert o1 O;cases m.over<;>cases l.over<;>simp
 have CK:(List.range (I L)).find? (A5 L i)=some p:=by
  refine AR h (λj z=>?_) ?_
  .cases n:A5 L i j with
   |false=>rfl
   |true=>
    unfold A5 at n;simp only[c6,bne_iff_ne,ne_eq]at n;obtain⟨Z,H⟩:=n;split at H
    .rename_i m v;simp only[c6,dk,hl,rm,kZ]at H;have:=u j m v H.1 H.2 Z;omega
    cases H
  unfold A5;rw[f];simp[T,Q,hl,F]
 have ho:i_ L i=p:=by unfold i_;rw[CK];rfl
 rw[ho];refine⟨?_,h⟩;unfold jr;refine AR h (λj z=>?_) ?_
 .cases n:sN L l.id (!l.over) j with
  |false=>rfl
  |true=>
   obtain⟨m,v,M,y,Y⟩:=C4 n;have B:j≠i:=by
    rintro rfl
    rw[hl]at v;cases v;revert Y;cases l.over<;>simp
   have:=u j m v M y B;omega
 rw[KL f];exact N
end
end Go.Abs
