/- A part. -/
import Derived.Test.YtnhlfpanllllgaaGreatDoorSa
set_option linter.all false
open List renaming length->I
set_option maxRecDepth 100000
set_option maxHeartbeats 16000000
namespace Go.Abs
variable{x g B z T A m j:Nat}{h:bn}{Q:fM}{u y:c6}
section
variable{f:Int}{F:Nat}
structure aa where
 kind:Int
 gate:Int
 ay:Int
 id:Int
 sign:Int
 over:Bool
 deriving DecidableEq
abbrev ae:=List aa
abbrev uk:=List ae
def aa.ps(l:aa):b_:=[.int .i64 l.kind,.int .i64 l.gate,.int .i64 l.ay,.int .i64 l.id,.int .i64 l.sign,.bool l.over]
def aa.aM(l:aa):Bool:=l.kind==1
def aa.aF(l:aa):Bool:=l.kind==2
abbrev c8(ls:ae):PV:=.sl (ls.map aa.ps)
abbrev df(f:Int)(ls:ae):V:=.agg [.p (.int .i64 f),.p (c8 ls)]
abbrev oz(f:Int)(ls:ae):eG:=[.p (.int .i64 f),.p (c8 ls)]
abbrev aC(k:Int):V:=.one (.p (.int .i64 k))
abbrev fT(b:Bool):V:=.one (.p (.bool b))
abbrev fQ(k:Int):RV:=.one (.p (.int .i64 k))
abbrev dn(k:Bool):RV:=.one (.p (.bool k))
abbrev ai(p:aa->Bool)(ls:ae):Nat:=ls.countP p
def aR{α:Type}{L:List α}{k:Nat}(h:k<I L):∃l,L[k]?=some l:=⟨L[k],by simp[h]⟩
def tU{p:aa->Bool}{L:ae}{k:Nat}{l:aa}(h:L[k]?=some l)(hp:p l):ai p (L.take (k+1))=ai p (L.take k)+1:=by unfold ai;obtain⟨H,rfl⟩:=cD.1 h;rw[aa2 H,vH,R8,aH hp]
def lW{p:aa->Bool}{L:ae}{k:Nat}{l:aa}(h:L[k]?=some l)(hp:p l=false):ai p (L.take (k+1))=ai p (L.take k):=by unfold ai;obtain⟨H,rfl⟩:=cD.1 h;rw[aa2 H,vH,R8,hp];rfl
def Au(p:aa->Bool)(L:ae)(k:Nat):ai p (L.take k)<=k:=lX Hn (by rw[iM];exact Nat.min_le_left _ _)
def qk(p:aa->Bool)(L:ae):ai p L<=I L:=Hn
def fP{L:ae}{k:Nat}{l:aa}(h:L[k]?=some l):(L.map aa.ps)[k]?=some l.ps:=by simp[h]
def vR{a b:Nat}(h:a+b<=9223372036854775807):IntKind.i64.wrap ((a:Int)+(b:Int))=((a+b:Nat):Int):=wrap_small (n:=a+b) h
def tP{a:Nat}(h:2*a<=9223372036854775807):IntKind.i64.wrap (2*(a:Int))=((2*a:Nat):Int):=wrap_small (n:=2*a) h
def SH{a b:Nat}(h:b<=a)(H:a<=9223372036854775807):IntKind.i64.wrap ((a:Int)-(b:Int))=((a-b:Nat):Int):=by have:((a:Int)-(b:Int))=((a-b:Nat):Int):=J;rw[this];exact wrap_small J
def C7{a:Nat}(h:1<=a)(H:a<=9223372036854775807):IntKind.i64.wrap ((a:Int)-1)=((a-1:Nat):Int):=SH (b:=1) h H
def adp(x y:Option (b_×aG))(f:Nat):Option (PV×aG):=match x,y with
 |some (x,r),some (y,s)=>some (.fn f x y,r++s)
 |_,_=>none
def awq{x y:b_}{r s:aG}{f:Nat}:adp (some (x,r)) (some (y,s)) f=some (.fn f x y,r++s):=rfl
def aGJ{aj:aB}{f:Nat}{a b:eG}:snap aj ia (.hfn f a b)=adp (ic (snap aj 5) a) (ic (snap aj 5) b) f:=by unfold ia;rw[snap];unfold adp;rfl
def arO{aj:aB}{n id:Nat}:snap aj (n+1) (.bh id g B)=Sv (aj id) (ic (snap aj n)) id g B:=by rw[snap];rfl
def ayV{aj:aB}{n id len:Nat}:snap aj (n+1) (.hsl id g z B len)=Sy (aj id) (ic (ic (snap aj n))) id g B len:=by rw[snap];rfl
def aI{b:Bool}(h:b:=by kernel_rfl):b:=h
def bt{f:Nat}{fn:aV}{A:dN}{r:RV}(H:S.fns f=some fn)(h:bP S .all fn.body (ns .all fn.results λv aj=>gr aj v=some r) (tp A) AE)(hp:S.prim f A=none:=by rfl)(hl:I A<=fn.ntmps:=by exact jn rfl):aJ S f A r:=azj hp H hl h
def fF:¬((2:Int)=0):=U
def tf(a b:Nat):(a:Int).tmod b=((a%b:Nat):Int):=by rw[Int.tmod_eq_emod_of_nonneg J];rfl
def kz(a:Nat):(a:Int).tmod 2=((a%2:Nat):Int):=tf a 2
def ik(a:Nat):(a:Int).tdiv 2=((a/2:Nat):Int):=by rw[Wg J];rfl
def dW{n:Nat}:¬((n:Int)<(n:Int)):=J
def pF(l:aa):I l.ps=6:=rfl
def aq1{aj:aB}{all:aG}:vV aj all []=some []:=rfl
attribute [go_sem] aGJ awq arO ayV aq1
def qA(g:Int)(l:aa):Bool:=l.aM&&l.gate==g
def nC(g:Int)(l:aa):Bool:=l.aF&&l.id==g
def abh(f:Int)(L:ae)(hl:I L<=1000000):aJ S 119 [df f L] (fQ (ai aa.aM L)):=by
 refine bt auC ?_;simp only[go_sem,agx,af,au];refine c_ (λk h _=>h 7=.one (.p (c8 L))/\h 8=aC (I L)/\h 9=aC k/\h 3=aC (ai aa.aM (L.take k))) 0 (I L) (cE _) ?_ ?_
 .simp only[go_sem];exact⟨rfl,rfl⟩
 rintro k h aj F ⟨y,g,j,H⟩
 by_cases A:k<I L
 .obtain⟨l,D⟩:=aR A;have x:=fP D;have B:((k:Int)<(I L:Int)):=J;have E:=Au (aa.aM) L k;have u:=cP (n:=k) J;have z:=cP (n:=ai (aa.aM) (L.take k)) J;cases hp:(l.kind==1)with
  |true=>have m:=tU (p:=aa.aM) D hp;simp only[go_sem,R2,H,y,g,j,x,pF,aa.ps,B,u,z,hp,m,af,au];first|exact A|exact⟨A,rfl⟩
  |false=>have m:=lW (p:=aa.aM) D hp;simp only[go_sem,R2,H,y,g,j,x,pF,aa.ps,B,u,z,hp,m,af,au];first|exact A|exact⟨A,rfl⟩
 have:k=I L:=J;subst this;rw[jN]at H;simp only[go_sem,R2,aoP,H,g,j,dW,af,au]
def Z9(f:Int)(L:ae)(hl:I L<=1000000):aJ S 76 [df f L] (fQ (ai aa.aF L)):=by
 refine bt aC6 ?_;simp only[go_sem,aeY,af,au];refine c_ (λk h _=>h 7=.one (.p (c8 L))/\h 8=aC (I L)/\h 9=aC k/\h 3=aC (ai aa.aF (L.take k))) 0 (I L) (cE _) ?_ ?_
 .simp only[go_sem];exact⟨rfl,rfl⟩
 rintro k h aj F ⟨y,g,j,H⟩
 by_cases A:k<I L
 .obtain⟨l,D⟩:=aR A;have x:=fP D;have B:((k:Int)<(I L:Int)):=J;have E:=Au (aa.aF) L k;have u:=cP (n:=k) J;have z:=cP (n:=ai (aa.aF) (L.take k)) J;cases hp:(l.kind==2)with
  |true=>have m:=tU (p:=aa.aF) D hp;simp only[go_sem,UJ,H,y,g,j,x,pF,aa.ps,B,u,z,hp,m,af,au];first|exact A|exact⟨A,rfl⟩
  |false=>have m:=lW (p:=aa.aF) D hp;simp only[go_sem,UJ,H,y,g,j,x,pF,aa.ps,B,u,z,hp,m,af,au];first|exact A|exact⟨A,rfl⟩
 have:k=I L:=J;subst this;rw[jN]at H;simp only[go_sem,UJ,ant,H,g,j,dW,af,au]
def aoR(f:Int)(L:ae)(hl:I L<=1000000):aJ S 120 [df f L] (fQ ((ai aa.aF L/2:Nat))):=by
 have h:=qk aa.aF L;have e1:IntKind.i64.wrap ((ai aa.aF L:Int).tdiv 2)=((ai aa.aF L/2:Nat):Int):=by
  have:(ai aa.aF L:Int).tdiv 2=((ai aa.aF L/2:Nat):Int):=by rw[Wg J];omega
  rw[this];exact wrap_small J
 refine bt auB ?_;simp only[go_sem,aeT,Er,dP (Z9 f L hl),e1,(by decide:¬(2:Int)=0),af,au]
def aoJ(f:Int)(L:ae)(hl:I L<=1000000):aJ S 49 [df f L] (fQ (ai aa.aM L)):=by
 refine bt aD9 ?_;simp only[go_sem,afQ,af,au];refine c_ (λk h aj=>h 1=.one (.bh 3136000000 1 0)/\aj 3136000000=(1,some (.var (oz f L)))/\h 4=aC k/\h 3=aC (ai aa.aM (L.take k))) 0 (I L) (cE _) ?_ ?_
 .simp only[go_sem];first|exact⟨rfl,rfl⟩|exact⟨rfl,rfl,rfl⟩
 rintro k h aj F ⟨j,H,m,g⟩
 by_cases A:k<I L
 .obtain⟨l,D⟩:=aR A;have y:=fP D;have B:((k:Int)<(I L:Int)):=J;have E:=Au (aa.aM) L k;have x:=cP (n:=k) J;have z:=cP (n:=ai (aa.aM) (L.take k)) J;cases hp:(l.kind==1)with
  |true=>have u:=tU (p:=aa.aM) D hp;simp only[go_sem,SC,j,H,m,g,y,pF,aa.ps,B,x,z,hp,u,af,au];first|exact A|exact⟨A,rfl⟩
  |false=>have u:=lW (p:=aa.aM) D hp;simp only[go_sem,SC,j,H,m,g,y,pF,aa.ps,B,x,z,hp,u,af,au];first|exact A|exact⟨A,rfl⟩
 have:k=I L:=J;subst this;rw[jN]at g;simp only[go_sem,SC,ao2,j,H,m,g,dW,af,au]
def adz(f:Int)(L:ae)(hl:I L<=1000000):aJ S 48 [df f L] (fQ (ai aa.aF L)):=by
 refine bt awJ ?_;simp only[go_sem,akF,af,au];refine c_ (λk h aj=>h 1=.one (.bh 3072000000 1 0)/\aj 3072000000=(1,some (.var (oz f L)))/\h 4=aC k/\h 3=aC (ai aa.aF (L.take k))) 0 (I L) (cE _) ?_ ?_
 .simp only[go_sem];first|exact⟨rfl,rfl⟩|exact⟨rfl,rfl,rfl⟩
 rintro k h aj F ⟨j,H,m,g⟩
 by_cases A:k<I L
 .obtain⟨l,D⟩:=aR A;have y:=fP D;have B:((k:Int)<(I L:Int)):=J;have E:=Au (aa.aF) L k;have x:=cP (n:=k) J;have z:=cP (n:=ai (aa.aF) (L.take k)) J;cases hp:(l.kind==2)with
  |true=>have u:=tU (p:=aa.aF) D hp;simp only[go_sem,Ur,j,H,m,g,y,pF,aa.ps,B,x,z,hp,u,af,au];first|exact A|exact⟨A,rfl⟩
  |false=>have u:=lW (p:=aa.aF) D hp;simp only[go_sem,Ur,j,H,m,g,y,pF,aa.ps,B,x,z,hp,u,af,au];first|exact A|exact⟨A,rfl⟩
 have:k=I L:=J;subst this;rw[jN]at g;simp only[go_sem,Ur,anT,j,H,m,g,dW,af,au]
def aaS(f:Int)(L:ae)(hl:I L<=1000000):aJ S 52 [df f L] (fQ ((ai aa.aF L/2:Nat))):=by
 have h:=qk aa.aF L;have e1:IntKind.i64.wrap ((ai aa.aF L:Int).tdiv 2)=((ai aa.aF L/2:Nat):Int):=by
  have:(ai aa.aF L:Int).tdiv 2=((ai aa.aF L/2:Nat):Int):=by rw[Wg J];omega
  rw[this];exact wrap_small J
 refine bt avd ?_;simp only[go_sem,alZ,tE,dP (adz f L hl),e1,(by decide:¬(2:Int)=0),af,au]
def aBc(f:Int)(L:ae)(hl:I L<=1000000)(g:Int):aJ S 87 [df f L,aC g] (fQ (ai (qA g) L)):=by
 refine bt arH ?_;simp only[go_sem,ah1,af,au];refine c_ (λk h aj=>h 2=.one (.bh 5568000000 1 0)/\aj 5568000000=(1,some (.var (oz f L)))/\h 6=aC k/\h 5=aC (ai (qA g) (L.take k))/\h 1=aC g) 0 (I L) (cE _) ?_ ?_
 .simp only[go_sem];first|exact⟨rfl,rfl⟩|exact⟨rfl,rfl,rfl⟩
 rintro k h aj O ⟨m,x,M,j,F⟩
 by_cases A:k<I L
 .obtain⟨l,D⟩:=aR A;have z:=fP D;have E:((k:Int)<(I L:Int)):=J;have N:=Au ((qA g)) L k;have y:=cP (n:=k) J;have B:=cP (n:=ai ((qA g)) (L.take k)) J;cases hp:(l.kind==1)with
  |true=>
   cases u:(l.gate==g)with
   |true=>have H:=tU (p:=(qA g)) D (by simp only[qA,aa.aM,hp,u];rfl);simp only[go_sem,Qm,m,x,M,j,z,pF,aa.ps,E,y,B,F,hp,u,H,af,au];first|exact A|exact⟨A,rfl⟩
   |false=>have H:=lW (p:=(qA g)) D (by simp only[qA,aa.aM,hp,u];rfl);simp only[go_sem,Qm,m,x,M,j,z,pF,aa.ps,E,y,B,F,hp,u,H,af,au];first|exact A|exact⟨A,rfl⟩
  |false=>have H:=lW (p:=(qA g)) D (by simp only[qA,aa.aM,hp];rfl);simp only[go_sem,Qm,m,x,M,j,z,pF,aa.ps,E,y,B,F,hp,H,af,au];first|exact A|exact⟨A,rfl⟩
 have:k=I L:=J;subst this;rw[jN]at j;simp only[go_sem,Qm,akI,m,x,M,j,dW,af,au]
def aHn(f:Int)(L:ae)(hl:I L<=1000000)(g:Int):aJ S 88 [df f L,aC g] (fQ (ai (nC g) L)):=by
 refine bt av7 ?_;simp only[go_sem,ajS,af,au];refine c_ (λk h aj=>h 2=.one (.bh 5632000000 1 0)/\aj 5632000000=(1,some (.var (oz f L)))/\h 6=aC k/\h 5=aC (ai (nC g) (L.take k))/\h 1=aC g) 0 (I L) (cE _) ?_ ?_
 .simp only[go_sem];first|exact⟨rfl,rfl⟩|exact⟨rfl,rfl,rfl⟩
 rintro k h aj O ⟨m,x,M,j,F⟩
 by_cases A:k<I L
 .obtain⟨l,D⟩:=aR A;have z:=fP D;have E:((k:Int)<(I L:Int)):=J;have N:=Au ((nC g)) L k;have y:=cP (n:=k) J;have B:=cP (n:=ai ((nC g)) (L.take k)) J;cases hp:(l.kind==2)with
  |true=>
   cases u:(l.id==g)with
   |true=>have H:=tU (p:=(nC g)) D (by simp only[nC,aa.aF,hp,u];rfl);simp only[go_sem,Nb,m,x,M,j,z,pF,aa.ps,E,y,B,F,hp,u,H,af,au];first|exact A|exact⟨A,rfl⟩
   |false=>have H:=lW (p:=(nC g)) D (by simp only[nC,aa.aF,hp,u];rfl);simp only[go_sem,Nb,m,x,M,j,z,pF,aa.ps,E,y,B,F,hp,u,H,af,au];first|exact A|exact⟨A,rfl⟩
  |false=>have H:=lW (p:=(nC g)) D (by simp only[nC,aa.aF,hp];rfl);simp only[go_sem,Nb,m,x,M,j,z,pF,aa.ps,E,y,B,F,hp,H,af,au];first|exact A|exact⟨A,rfl⟩
 have:k=I L:=J;subst this;rw[jN]at j;simp only[go_sem,Nb,ang,m,x,M,j,dW,af,au]
def c9 (L:ae)(i:Nat):Bool:=ai aa.aM (L.take i)%2==0
def Ir(f:Int)(L:ae)(i:Nat)(hl:I L<=1000000)(N:i<=I L):aJ S 55 [df f L,aC i] (dn (c9 L i)):=by
 refine bt asm ?_;simp only[go_sem,ahR,af,au];refine c_ (λk h aj=>h 1=aC i/\h 2=.one (.bh 3520000000 1 0)/\aj 3520000000=(1,some (.var (oz f L)))/\h 6=aC k/\h 5=aC (ai aa.aM (L.take k))) 0 i (cE _) ?_ ?_
 .simp only[go_sem];exact⟨rfl,rfl⟩
 rintro k h aj O ⟨H,g,u,m,j⟩
 have M:=Au aa.aM L k;by_cases A:k<i
 .obtain⟨l,D⟩:=aR (L:=L) (k:=k) J;have z:=fP D;have E:((k:Int)<(i:Int)):=J;have y:=cP (n:=k) J;have B:=cP (n:=ai aa.aM (L.take k)) J;cases hp:(l.kind==1)with
  |true=>have x:=tU (p:=aa.aM) D hp;simp only[go_sem,Vh,H,g,u,m,j,z,pF,aa.ps,E,y,B,hp,x,af,au];exact A
  |false=>have x:=lW (p:=aa.aM) D hp;simp only[go_sem,Vh,H,g,u,m,j,z,pF,aa.ps,E,y,B,hp,x,af,au];exact A
 have:k=i:=J;subst this;have e2:((((ai aa.aM (L.take k))%2:Nat):Int)==0)=c9 L k:=by
  unfold c9;cases F:(ai aa.aM (L.take k)%2==0)with
  |true=>simp at F |-;omega
  |false=>simp at F |-;omega
 simp only[go_sem,Vh,aof,H,g,u,m,j,dW,fF,kz,e2,af,au]
def asF(a b:aa):aJ S 128 [.agg (a.ps.map .p),.agg (b.ps.map .p)] (dn (decide (a.gate<b.gate)||(a.gate==b.gate&&decide (a.ay<b.ay)))):=by
 refine bt aym ?_;by_cases h:a.gate<b.gate
 .simp only[go_sem,Vb,aa.ps,h,af,au]
 cases H:(a.gate==b.gate)with
 |true=>simp only[go_sem,Vb,aa.ps,h,H,af,au]
 |false=>simp only[go_sem,Vb,aa.ps,h,H,af,au]
def fj(n i:Nat)(f:Bool):Nat:=if f then 2*i else 2*((i+n-1)%n)+1
def abv(f:Int)(L:ae)(i:Nat)(F:Bool)(hl:I L<=1000000)(x:i<I L):aJ S 129 [df f L,aC i,fT F] (fQ (fj (I L) i F)):=by
 refine bt auc ?_;cases F with
 |true=>have e:IntKind.i64.wrap (2*(i:Int))=((2*i:Nat):Int):=wrap_small (n:=2*i) J;simp only[go_sem,aaX,e,fj,af,au]
 |false=>
  have g:IntKind.i64.wrap ((i:Int)+(I L:Int))=((i+I L:Nat):Int):=wrap_small (n:=i+I L) J;have m:IntKind.i64.wrap (((i+I L:Nat):Int)-1)=((i+I L-1:Nat):Int):=by have:(((i+I L:Nat):Int)-1)=((i+I L-1:Nat):Int):=J;rw[this];exact wrap_small J
  have e1:=tf (i+I L-1) (I L);have u:=fC (i+I L-1) (show 0<I L by omega);have j:IntKind.i64.wrap (2*(((i+I L-1)%I L:Nat):Int))=((2*((i+I L-1)%I L):Nat):Int):=wrap_small (n:=2*((i+I L-1)%I L)) J;have h:=cP (n:=2*((i+I L-1)%I L)) J;have H:¬((I L:Int)=0):=J;simp only[go_sem,aaX,g,m,e1,j,h,H,fj,af,au]
def Ag(L:ae)(i j:Nat):Bool:=j !=i&&(match L[j]? with|some l=>l.aF&&l.id==((L[i]?).map aa.id).getD 0|none=>false)
def iK(L:ae)(i:Nat):Nat:=((List.range (I L)).find? (Ag L i)).getD i
def Cz{p:Nat->Bool}:∀ {n k:Nat},k<n->(∀j,j<k->p j=false)->p k->(List.range n).find? p=some k:=by intro n k h f hp;exact List.find?_range_eq_some.2 ⟨hp,by simpa using h,λj H=>by simp[f j H]⟩
def Gb{p:Nat->Bool}{n:Nat}(H:∀j,j<n->p j=false):(List.range n).find? p=none:=by rw[GU];intro x h;simp[H x (by simpa using h)]
def azE(f:Int)(L:ae)(i:Nat)(hl:I L<=1000000)(Cp:i<I L):aJ S 130 [df f L,aC i] (fQ (iK L i)):=by
 obtain⟨R,X⟩:=aR Cp;have O:=fP X;have key:∀j l,L[j]?=some l->Ag L i j=(j !=i&&(l.aF&&l.id==R.id)):=λj l Y=>by simp[Ag,Y,X]
 refine bt aCy ?_;simp only[go_sem,agT,af,au];refine c_ (λk h aj=>h 1=aC i/\h 2=.one (.bh 8320000000 1 0)/\aj 8320000000=(1,some (.var (oz f L)))/\h 5=aC k/\ ∀j,j<k->Ag L i j=false) 0 (I L) (cE _) ?_ ?_
 .simp only[go_sem];exact⟨rfl,λj Y=>absurd Y (mX j)⟩
 rintro k h aj hk ⟨u,g,x,M,Q⟩
 by_cases A:k<I L
 .obtain⟨l,T⟩:=aR A;have E:=fP T;have D:((k:Int)<(I L:Int)):=J;have y:=cP (n:=k) J;have z:=key k l T;have step:Ag L i k=false->∀j,j<k+1->Ag L i j=false:=λY j hj=>by
   rcases m_.1 hj with Z|rfl
   .exact Q j Z
   exact Y
  by_cases H:k=i
  .have m:((k:Int)!=(i:Int))=false:=by simp[H]
   have hs:=step (by rw[z];simp[H]);simp only[go_sem,KJ,u,g,x,M,E,D,y,m,af,au];exact⟨ah,A,hs⟩
  have m:((k:Int)!=(i:Int)):=by simp;omega
  have F:(k !=i):=by simp[H]
  cases hp:(l.kind==2)with
  |false=>have hs:=step (by rw[z,F,aa.aF,hp];rfl);simp only[go_sem,KJ,u,g,x,M,E,O,pF,aa.ps,D,y,m,hp,af,au];exact⟨ah,A,hs⟩
  |true=>
   cases B:(l.id==R.id)with
   |false=>have hs:=step (by rw[z,F,aa.aF,hp,B];rfl);simp only[go_sem,KJ,u,g,x,M,E,O,pF,aa.ps,D,y,m,hp,B,af,au];exact⟨ah,A,hs⟩
   |true=>
    have N:iK L i=k:=by unfold iK;rw[Cz A Q (by rw[z,F,aa.aF,hp,B];rfl)];rfl
    simp only[go_sem,KJ,u,g,x,M,E,O,pF,aa.ps,D,y,m,hp,B,N,af,au];show pK _ _ _=true
    kernel_rfl
 have:k=I L:=J;subst this;have N:iK L i=i:=by unfold iK;rw[Gb Q];rfl
 simp only[go_sem,KJ,ap8,u,g,x,M,dW,N,af,au]
abbrev uA(l:aG):PV:=.sl (l.map λn:Nat=>[.int .i64 (n:Int)])
def aCL(l:aG)(n f:Nat)(hl:I l<=1000000)(g:l[f]?=some n)(L:∀j,j<f->l[j]? ≠some n):aJ S 91 [.one (.p (uA l)),aC n] (fQ f):=by
 have u:=(cD.1 g).1;refine bt alE ?_;simp only[go_sem,aba,af,au];refine c_ (λk h aj=>h 0=.one (.p (uA l))/\h 1=aC n/\h 5=aC k) 0 f (cE _) ?_ ?_
 .simp only[go_sem];rfl
 rintro k h aj M ⟨y,B,D⟩
 have E:((k:Int)<(I l:Int)):=J;have x:=cP (n:=k) J;obtain⟨m,H⟩:=aR (L:=l) (k:=k) J;have z:(l.map λn:Nat=>[PV.int .i64 (n:Int)])[k]?=some [.int .i64 (m:Int)]:=by simp[H]
 by_cases A:k<f
 .have F:((m:Int)==(n:Int))=false:=by
   have:m≠n:=λe=>L k A (by rw[H,e]);simp;omega
  simp only[go_sem,IA,y,B,D,E,x,z,F,af,au];exact A
 have:k=f:=J;subst this;have e:m=n:=by rw[H]at g;exact lq g
 subst e;simp only[go_sem,IA,y,B,D,E,x,z,af,au]
abbrev xt(l:aa):V:=.agg [.p (.int .i64 l.kind),.p (.int .i64 l.gate),.p (.int .i64 l.ay),.p (.int .i64 l.id),.p (.int .i64 l.sign),.p (.bool l.over)]
def Fi(a b:aa):Bool:=decide (a.gate<b.gate)||(a.gate==b.gate&&decide (a.ay<b.ay))
def auL(a b:aa):aJ S 128 [xt a,xt b] (dn (Fi a b)):=asF a b
abbrev cg(o:aG):s_:=o.map λn:Nat=>[PV.int .i64 (n:Int)]
def jZ{o:aG}{k n:Nat}(h:o[k]?=some n):(cg o)[k]?=some [.int .i64 (n:Int)]:=by simp[h]
def BR(L:ae)(i j:Nat):Bool:=match L[j]?,L[i]? with
 |some a,some b=>Fi a b
 |_,_=>false
def AQ(L:ae)(o:aG)(i:Nat):aG:=o.take (I (o.takeWhile (BR L i)))++i::o.drop (I (o.takeWhile (BR L i)))
def CK(L:ae)(o:aG)(i:Nat):aG:=match L[i]? with
 |some l=>if l.aM then AQ L o i else o
 |none=>o
def aL(L:ae):aG:=(List.range (I L)).foldl (CK L) []
def qe(L:ae)(k:Nat):aG:=(List.range k).foldl (CK L) []
def KQ(L:ae)(k:Nat):qe L (k+1)=CK L (qe L k) k:=by unfold qe;rw[r9,za];rfl
def aq5{L:ae}{o:aG}{i:Nat}(h:x∈CK L o i):x∈o\/x=i:=by
 unfold CK at h;split at h
 .split at h
  .unfold AQ at h;rcases fc.1 h with h|h
   .exact .inl (yk h)
   rcases dk.1 h with h|h
   .exact .inr h
   exact .inl (wx h)
  exact .inl h
 exact .inl h
def U9{L:ae}:∀ {k x:Nat},x∈qe L k->x<k:=by
 intro k
 induction k with
 |zero=>intro x h;simp[qe]at h
 |succ k f=>
  intro x h;rw[KQ]at h;rcases aq5 h with h|h
  .have:=f h;omega
  omega
def uq(L:ae):∀k,I (qe L k)<=k:=by
 intro k
 induction k with
 |zero=>simp[qe]
 |succ k f=>
  rw[KQ];unfold CK;split
  .split
   .unfold AQ;simp only[fv,dw,iM,l8];omega
   omega
  omega
def Eu(f:Nat)(o:aG)(v:V)(aj:aB):Prop:=(o=[]/\v=.one (.p .nils))\/(o≠[]/\ ∃g,v=.one (.hsl f g 1 0 (I o))/\aj f=(g,some (.arr 3 1 (cg o))))
def aBl{o:aG}{i bK:Nat}{aj:aB}(L:Eu 5696576640 o (h 3) aj)(B:h 4=aC i)(E:h 5=aC bK)(O:bK<=I o)(hl:I o<=1000000)
  (y:∀A z,A 1=h 1->A 4=h 4->z 5696000000=aj 5696000000->Eu 5696576640 (o.take bK++i::o.drop bK) (A 3) z->Q .normal A z):
  bP S .all Ga Q h aj:=by
 rcases L with⟨rfl,f⟩|⟨L,g,f,M⟩
 .have H:bK=0:=by simpa using O
  subst H;simp only[go_sem,Ga,f,B,E,af,au];refine⟨ah,y _ _ ?_ ?_ ?_ (.inr ⟨aQ,(aj 5696576640).1+1,?_,?_⟩)⟩;all_goals simp only[go_sem]
 have N:∀n:Nat,n<=1000001->n*8<=140737488355328:=λn Z=>J;by_cases H:bK=0
 .subst H;have m:List.take (I o) (cg o)=cg o:=e_ aQ;have j:=N (1+I o) J;simp only[go_sem,Ga,f,B,E,M,m,j,af,au];refine⟨ah,y _ _ ?_ ?_ ?_ (.inr ⟨aQ,g+1,?_,?_⟩)⟩;all_goals simp only[go_sem]
  simp;omega
 have m:I (List.take bK (cg o))=bK:=by simp;omega
 have u:List.take bK (List.take bK (cg o))=List.take bK (cg o):=by rw[EU,Nat.min_self]
 have X:List.take (bK+1) (List.take bK (cg o)++[[PV.int .i64 (i:Int)]])=List.take bK (cg o)++[[PV.int .i64 (i:Int)]]:=e_ (by simp;omega);have F:List.take (I o-bK) (List.drop bK (cg o))=List.drop bK (cg o):=e_ aQ;have x:I (List.drop bK (cg o))=I o-bK:=aQ;have R:I (List.take bK (cg o)++[[PV.int .i64 (i:Int)]])=bK+1:=by simp;omega
 have j:=N bK J;have T:=N (bK+1) J;have Y:=N (bK+1+(I o-bK)) J;have D:bK+(I o-bK)<=I o:=J;simp only[go_sem,Ga,f,B,E,M,O,m,H,j,T,Y,u,X,F,x,R,D,af,au];refine⟨ah,y _ _ ?_ ?_ ?_ (.inr ⟨aQ,g+1,?_,?_⟩)⟩;all_goals simp only[go_sem]
 .simp;omega
 simp
def az0{α:Type}{p:α->Bool}{l:List α}{bK:Nat}(f:bK<=I l)(g:∀j x,j<bK->l[j]?=some x->p x)(H:∀x,l[bK]?=some x->p x=false):I (l.takeWhile p)=bK:=by
 induction l generalizing bK with
 |nil=>simp at f |-;omega
 |cons a l m=>
  cases bK with
  |zero=>have:=H a rfl;simp[List.takeWhile,this]
  |succ bK=>have:=g 0 a J rfl;simp only[List.takeWhile,this,dw];rw[m (by simpa using f) (λj x u h=>g (j+1) x J (by simpa using h)) (λx h=>H x (by simpa using h))]
def avG{m:ae}{f:Int}{o:aG}{i:Nat}{R:aa}{aj:aB}(F:Eu 5696576640 o (h 3) aj)(h1:h 1=.one (.bh 5696000000 1 0))(hB:aj 5696000000=(1,some (.var (oz f m))))(h4:h 4=aC i)(h5:h 5=aC 0)
  (xE:m[i]?=some R) (aq:∀x∈o,x<I m) (hl:I o<=1000000)
  (hq:∀A u,A 1=h 1->A 4=h 4->u 5696000000=aj 5696000000->Eu 5696576640 (AQ m o i) (A 3) u->Q .normal A u):
  bP S .all (.loop Kz) (ld 2 (vb S .all Ga Q)) h aj:=by
 have ie:=fP xE;refine c_ (λk A u=>A 1=h 1/\A 4=h 4/\A 3=h 3/\u=aj/\A 5=aC k/\ ∀j x,j<k->o[j]?=some x->BR m i x) 0 (I o) (cE _) ?_ ?_
 .exact⟨rfl,rfl,rfl,rfl,h5,λj x M=>absurd M (mX j)⟩
 rintro k A u hk ⟨L,Y,T,rfl,z,hp⟩
 rw[h1]at L;rw[h4]at Y;have fin:∀e:bn,e 1=A 1->e 4=A 4->e 3=A 3->e 5=A 5->(∀x,o[k]?=some x->BR m i x=false)->bP S .all Ga Q e u:=by
  intro e e1 e4 e3 e5 jk;have hK:=az0 hk hp jk;have nj:Eu 5696576640 o (e 3) u:=by rw[e3,T];exact F
  refine aBl (i:=i) (bK:=k) nj (by rw[e4,Y]) (by rw[e5,z]) hk hl ?_;intro dz bJ q1 q2 q3 q4;refine hq dz bJ (by rw[q1,e1,L,h1]) (by rw[q2,e4,Y,h4]) q3 ?_;unfold AQ;rw[hK];exact q4
 by_cases X:k<I o
 .obtain⟨x,D⟩:=aR X;have tx:=aq x (ch D);obtain⟨lx,E⟩:=aR tx;have lh:=fP E;have zP:=jZ D;have aO:((k:Int)<(I o:Int)):=J;have w1:=cP (n:=k) J;have N:BR m i x=Fi lx R:=by simp[BR,E,xE]
  have Z:=auL lx R;rcases F with⟨rfl,_⟩|⟨F,g,B,hC⟩
  .simp at X
  rw[B]at T;cases O:Fi lx R with
  |true=>
   rw[O]at Z;simp only[go_sem,Kz,h1,B,h4,L,T,Y,z,hB,hC,aO,zP,lh,ie,pF,aa.ps,X,w1,afR,dC Z,af,au];refine⟨ah,λj y M H=>?_⟩;rcases m_.1 M with M|rfl
   .exact hp j y M H
   rw[D]at H;cases H;rw[N,O]
  |false=>rw[O]at Z;simp only[go_sem,Kz,L,T,Y,z,hB,hC,aO,zP,lh,ie,pF,aa.ps,X,afR,dC Z,af,au];refine⟨ah,fin _ ?_ ?_ ?_ ?_ (λy H=>by rw[D]at H;cases H;rw[N,O])⟩;all_goals simp only[go_sem,L,T,Y,z]
 have:k=I o:=J;subst this;have dL:∀x,o[I o]?=some x->BR m i x=false:=λx D=>by simp at D
 rcases F with⟨rfl,B⟩|⟨F,g,B,hC⟩
 .rw[B]at T;simp only[go_sem,Kz,L,T,Y,z,dW,af,au];refine⟨ah,fin _ ?_ ?_ ?_ ?_ dL⟩;all_goals simp only[go_sem,L,T,Y,z]
 rw[B]at T;simp only[go_sem,Kz,L,T,Y,z,dW,af,au];refine⟨ah,fin _ ?_ ?_ ?_ ?_ dL⟩;all_goals simp only[go_sem,L,T,Y,z]
def avu(L:ae)(o:aG)(i:Nat):I (AQ L o i)=I o+1:=by unfold AQ;simp only[fv,dw,iM,l8];have:=(List.takeWhile_sublist (BR L i) (l:=o)).length_le;omega
def E3{aj:aB}{id len T:Nat}{E:s_}(h:aj id=(g,some (.arr T z E)))(hl:len=I E):gr aj (.one (.hsl id g z 0 len))=some (.one (.own T z E)):=by subst hl;simp only[gr,nx,k5,kj,gR,h,cT,and_self,if_true,jN];rfl
def QI(o:aG):kJ:=if o=[]then .p .nils else .own 3 1 (cg o)
def alY(f:Int)(L:ae)(hl:I L<=1000000):aJ S 89 [df f L] (.one (QI (aL L))):=by
 refine bt axh ?_;simp only[go_sem,aoV,af,au];refine c_ (λk h aj=>h 1=.one (.bh 5696000000 1 0)/\aj 5696000000=(1,some (.var (oz f L)))/\h 4=aC k/\Eu 5696576640 (qe L k) (h 3) aj) 0 (I L) (cE _) ?_ ?_
 .simp only[go_sem];exact⟨rfl,.inl ⟨rfl,rfl⟩⟩
 rintro k h aj Z ⟨y,z,u,j⟩
 have ff:=uq L k;by_cases A:k<I L
 .obtain⟨l,D⟩:=aR A;have M:=fP D;have F:((k:Int)<(I L:Int)):=J;have B:=cP (n:=k) J;have hs:=KQ L k;unfold CK at hs;rw[D]at hs;cases hp:(l.kind==1)with
  |false=>
   have O:(l.kind !=1):=by simp[bne,hp]
   simp only[aa.aM,hp]at hs;have hs:qe L (k+1)=qe L k:=hs;simp only[go_sem,Ob,aaf,y,z,u,M,pF,aa.ps,F,O,B,hs,A,af,au];rcases j with⟨e,H⟩|⟨j,g,H,m⟩
   .exact .inl ⟨e,by simp only[go_sem,H]⟩
   exact .inr ⟨j,g,by simp only[go_sem,H],by simp only[go_sem,m]⟩
  |true=>
   have O:(l.kind !=1)=false:=by simp[bne,hp]
   simp only[aa.aM,hp]at hs;have hs:qe L (k+1)=AQ L (qe L k) k:=hs;simp only[go_sem,Ob,y,z,u,M,pF,aa.ps,F,O,af,au];refine avG (m:=L) (f:=f) (o:=qe L k) (i:=k) ?_ ?_ ?_ ?_ ?_ D (λx T=>Nat.lt_trans (U9 T) A) J ?_
   .rcases j with⟨e,H⟩|⟨j,g,H,m⟩
    .exact .inl ⟨e,by simp only[go_sem,H]⟩
    exact .inr ⟨j,g,by simp only[go_sem,H],by simp only[go_sem,m]⟩
   .simp only[go_sem,y]
   .simp only[go_sem,z]
   .simp only[go_sem,u]
   .rfl
   intro Y ao Q N E R;simp only[go_sem,y,u,z]at Q N E;simp only[go_sem,aaf,Q,N,E,B,hs,A];rcases R with⟨e,H⟩|⟨j,g,H,m⟩
   .exact .inl ⟨e,by simp only[go_sem,H]⟩
   exact .inr ⟨j,g,by simp only[go_sem,H],by simp only[go_sem,m]⟩
 have:k=I L:=J;subst this;have X:aL L=qe L (I L):=rfl;rw[<-X]at j;rcases j with⟨e,H⟩|⟨j,g,H,m⟩
 .simp only[go_sem,Ob,aav,y,z,H,u,dW,QI,e,af,au]
 simp only[go_sem,Ob,aav,y,z,H,u,dW,QI,j,af,au];exact E3 m aQ
def jx(L:ae)(ax:aG)(d:Nat):Nat:=
 if 2*I L<=d then
  if d%2=0 then fj (I L) (ax.getD (((d-2*I L)/2+1)%I ax) 0) (!c9 L (ax.getD (((d-2*I L)/2+1)%I ax) 0))
  else fj (I L) (ax.getD ((d-2*I L)/2) 0) (c9 L (ax.getD ((d-2*I L)/2) 0))
 else
  let f:=d%2==0
  let v:=if f then(d/2+1)%I L else d/2
  match L[v]? with
  |none=>0
  |some l=>if l.kind==2 then fj (I L) (iK L v) (f==(l.over==(l.sign==1)))
   else if c9 L v==f then 2*I L+2*ax.idxOf v else 2*I L+2*((ax.idxOf v+I ax-1)%I ax)+1
def alS{L:ae}{i:Nat}(H:i<I L):iK L i<I L:=by
 unfold iK;cases h:(List.range (I L)).find? (Ag L i)with
 |none=>exact H
 |some k=>
  have:=Eo h
  simpa using this
def Dm{n i:Nat}{f:Bool}(h:i<n):fj n i f<2*n:=by unfold fj;have:=fC (i+n-1) (show 0<n by omega);split<;>omega
def Vz{L:ae}{ax:aG}{d:Nat}(lN:∀x∈ax,x<I L)(hp:∀v l,L[v]?=some l->(l.kind==2)=false->v∈ax)(z:d<2*I L+2*I ax):jx L ax d<2*I L+2*I ax:=by
 have F:∀k,k<I ax->ax.getD k 0<I L:=λk H=>by obtain⟨x,j⟩:=aR H;rw[dS,j];exact lN x (ch j)
 unfold jx;by_cases h:2*I L<=d
 .rw[aH h];have m:=fC ((d-2*I L)/2+1) (show 0<I ax by omega);by_cases g:d%2=0
  .rw[aH g];exact Bz (Dm (F _ m)) J
  rw[aw g];exact Bz (Dm (F _ J)) J
 rw[aw h];have y:0<I L:=J;have f:(if(d%2==0)=true then(d/2+1)%I L else d/2)<I L:=by
  split
  .exact fC _ y
  omega
 simp only;generalize(if(d%2==0)=true then(d/2+1)%I L else d/2)=v at f;obtain⟨l,hl⟩:=aR f;rw[hl];simp only;by_cases H:(l.kind==2)
 .rw[aH H];exact Bz (Dm (alS f)) J
 rw[aw H];have u:=hp v l hl (by simpa using H);have A:ax.idxOf v<I ax:=Kq.2 u;have m:=fC (ax.idxOf v+I ax-1) (show 0<I ax by omega);split<;>omega
def azy{ax:aG}{v:Nat}:∀j,j<ax.idxOf v->ax[j]? ≠some v:=by
 induction ax with
 |nil=>intro j h;simp at h
 |cons a ax f=>
  intro j h e;rw[Wc]at h;by_cases H:a=v
  .simp[H]at h
  have g:(a==v)=false:=by simpa using H
  rw[g]at h;cases j with
  |zero=>simp at e;exact H e
  |succ j=>exact f j (by simp at h;omega) (by simpa using e)
def ap0{ax:aG}{v:Nat}(h:v∈ax):ax[ax.idxOf v]?=some v:=by have hl:ax.idxOf v<I ax:=Kq.2 h;rw[sT hl,UH hl]
def ayL(f:Int)(L:ae)(ax:aG)(d:Nat)(hl:I L<=1000000)(hJ:I ax<=1000000)(lN:∀x∈ax,x<I L)(hp:∀v l,L[v]?=some l->(l.kind==2)=false->v∈ax)
  (hd:d<2*I L+2*I ax):aJ S 90 [df f L,.one (.p (uA ax)),aC d] (fQ (jx L ax d)):=by
 have A:IntKind.i64.wrap (2*(I L:Int))=((2*I L:Nat):Int):=wrap_small (n:=2*I L) J;unfold jx;by_cases h:2*I L<=d
 .rw[aH h];refine bt alU ?_;have u:((2*I L:Nat):Int)<=(d:Int):=J;have m2:IntKind.i64.wrap ((d:Int)-((2*I L:Nat):Int))=((d-2*I L:Nat):Int):=by
   have:((d:Int)-((2*I L:Nat):Int))=((d-2*I L:Nat):Int):=J;rw[this];exact wrap_small J
  have M:=wrap_small (n:=(d-2*I L)/2) J;have hm:=fC ((d-2*I L)/2+1) (show 0<I ax by omega);have X:¬((I ax:Int)=0):=J;by_cases h2:d%2=0
  .rw[aH h2];have B:=cP (n:=(d-2*I L)/2) J;have j7:(((d%2:Nat):Int)==0):=by simp[h2]
   have z:=tf ((d-2*I L)/2+1) (I ax);obtain⟨v,H⟩:=aR hm;have tu:ax.getD (((d-2*I L)/2+1)%I ax) 0=v:=by rw[dS,H];rfl
   rw[tu];have O:=lN v (ch H);have uc:=jZ H;have j:=Ir f L v hl J;have pa:=abv f L v (!c9 L v) hl O;simp only[go_sem,C4,A,m2,M,B,z,u,j7,uc,X,kz,ik,fF,zz,Tr,dC j,ek pa,af,au];exact aI
  rw[aw h2];have j7:(((d%2:Nat):Int)==0)=false:=by simp;omega
  obtain⟨v,H⟩:=aR (L:=ax) (k:=(d-2*I L)/2) J;have tu:ax.getD ((d-2*I L)/2) 0=v:=by rw[dS,H];rfl
  rw[tu];have O:=lN v (ch H);have uc:=jZ H;have j:=Ir f L v hl J;have pa:=abv f L v (c9 L v) hl O;simp only[go_sem,C4,A,m2,M,u,j7,uc,X,kz,ik,fF,zz,Tr,dC j,ek pa,af,au];exact aI
 rw[aw h];have u:¬(((2*I L:Nat):Int)<=(d:Int)):=J;have M:=wrap_small (n:=d/2) J;have E:¬((I L:Int)=0):=J;have X:=fC (d/2+1) (show 0<I L by omega);have B:=cP (n:=d/2) J;have z:=tf (d/2+1) (I L);have body:∀v:Nat,v<I L->∀F:Bool,v=(if F then(d/2+1)%I L else d/2)->(d%2==0)=F->(((d%2:Nat):Int)==0)=F->aJ S 90 [df f L,.one (.p (uA ax)),aC d] (fQ ((match L[v]? with
   |none=>0
   |some l=>if l.kind==2 then fj (I L) (iK L v) (F==(l.over==(l.sign==1)))
    else if c9 L v==F then 2*I L+2*ax.idxOf v else 2*I L+2*((ax.idxOf v+I ax-1)%I ax)+1:Nat):Int)):=by
  intro v H F g A5 T;obtain⟨l,rF⟩:=aR H;have y:=fP rF;rw[rF];simp only;refine bt alU ?_;cases D:(l.kind==2)with
  |true=>
   have Z:=azE f L v hl H;have pa:=abv f L (iK L v) (F==(l.over==(l.sign==1))) hl (alS H);cases F with
   |true=>have g:v=(d/2+1)%I L:=g;rw[g]at y Z pa |-;simp only[go_sem,C4,A,M,B,z,u,T,y,pF,aa.ps,E,D,kz,ik,fF,agR,Tr,ek Z,ek pa,af,au];exact aI
   |false=>have g:v=d/2:=g;rw[g]at y Z pa |-;simp only[go_sem,C4,A,M,B,z,u,T,y,pF,aa.ps,E,D,kz,ik,fF,agR,Tr,ek Z,ek pa,af,au];exact aI
  |false=>
   have lf:=hp v l rF D;have I7:ax.idxOf v<I ax:=Kq.2 lf;have m:=aCL ax v (ax.idxOf v) hJ (ap0 lf) azy;have j:=Ir f L v hl J;have Jc:¬((I ax:Int)=0):=J;have iB:=fC (ax.idxOf v+I ax-1) (show 0<I ax by omega);have n1:=tP (a:=ax.idxOf v) J;have n2:=vR (a:=2*I L) (b:=2*ax.idxOf v) J;have R:=vR (a:=ax.idxOf v) (b:=I ax) J;have Y:=C7 (a:=ax.idxOf v+I ax) J J;have Q:=tf (ax.idxOf v+I ax-1) (I ax);have n6:=tP (a:=(ax.idxOf v+I ax-1)%I ax) J;have n7:=vR (a:=2*I L) (b:=2*((ax.idxOf v+I ax-1)%I ax)) J;have n8:=cP (n:=2*I L+2*((ax.idxOf v+I ax-1)%I ax)) J;cases F with
   |true=>
    have g:v=(d/2+1)%I L:=g;cases N:c9 L v with
    |true=>rw[N]at j;subst g;simp only[go_sem,C4,A,M,B,z,u,T,y,pF,aa.ps,E,D,kz,ik,fF,Ig,zz,dP m,aD j,n1,n2,R,Y,Q,n6,n7,n8,Jc,af,au]
    |false=>rw[N]at j;subst g;simp only[go_sem,C4,A,M,B,z,u,T,y,pF,aa.ps,E,D,kz,ik,fF,Ig,zz,dP m,aD j,n1,n2,R,Y,Q,n6,n7,n8,Jc,af,au]
   |false=>
    have g:v=d/2:=g;cases N:c9 L v with
    |true=>rw[N]at j;subst g;simp only[go_sem,C4,A,M,B,z,u,T,y,pF,aa.ps,E,D,kz,ik,fF,Ig,zz,dP m,aD j,n1,n2,R,Y,Q,n6,n7,n8,Jc,af,au]
    |false=>rw[N]at j;subst g;simp only[go_sem,C4,A,M,B,z,u,T,y,pF,aa.ps,E,D,kz,ik,fF,Ig,zz,dP m,aD j,n1,n2,R,Y,Q,n6,n7,n8,Jc,af,au]
 have O:(if(d%2==0)=true then(d/2+1)%I L else d/2)<I L:=by
  split
  .exact X
  omega
 have:=body _ O (d%2==0) rfl rfl (by cases hq:(d%2==0)<;>simp at hq |- <;>omega);exact this
abbrev eC(o:eH):s_:=o.map λb:Bool=>[PV.bool b]
def qG{o:eH}{k:Nat}{b:Bool}(h:o[k]?=some b):(eC o)[k]?=some [.bool b]:=by simp[h]
def Lp(o:eH)(k:Nat)(b:Bool):(eC o).set k [.bool b]=eC (o.set k b):=by simp[xf]
def gW(next:Nat->Nat):Nat->Nat->eH->aG×eH
 |0,_,seen=>([],seen)
 |k+1,x,seen=>if seen.getD x true then([],seen)else(x::(gW next k (next x) (seen.set x true)).1,(gW next k (next x) (seen.set x true)).2)
def zi(s:eH):Nat:=s.countP (λb=> !b)
def Ns{s:eH}(h:s[x]?=some false):zi (s.set x true)+1=zi s:=by
 induction s generalizing x with
 |nil=>simp at h
 |cons b s f=>
  cases x with
  |zero=>simp at h;subst h;simp[zi]
  |succ x=>have:=f (x:=x) (by simpa using h);unfold zi at this |-;simp only[List.set_cons_succ,vh];omega
def aG8(next:Nat->Nat):∀(k x:Nat) (s:eH),(gW next k x s).2.length=I s:=by
 intro k
 induction k with
 |zero=>intro x s;rfl
 |succ k f=>
  intro x s;unfold gW;split
  .rfl
  simp[f]
def vC(next:Nat->Nat)(f:List aG×eH)(d:Nat):List aG×eH:=if f.2.getD d true then f else(f.1++[(gW next (I f.2+1) d f.2).1],(gW next (I f.2+1) d f.2).2)
def eY(next:Nat->Nat)(N k:Nat):List aG×eH:=(List.range k).foldl (vC next) ([],List.replicate N false)
def fO(next:Nat->Nat)(N:Nat):List aG:=(eY next N N).1
def yX(next:Nat->Nat)(N k:Nat):eY next N (k+1)=vC next (eY next N k) k:=by unfold eY;rw[r9,za];rfl
def Gy(next:Nat->Nat)(N:Nat):∀k,(eY next N k).2.length=N:=by
 intro k
 induction k with
 |zero=>simp[eY]
 |succ k f=>
  rw[yX];unfold vC;split
  .exact f
  simp[aG8,f]
def aBp(next:Nat->Nat)(N k:Nat)(j:1<=k)(m:1<=N):(eY next N k).1≠[]:=by
 induction k with
 |zero=>omega
 |succ k f=>
  rw[yX];by_cases h:k=0
  .subst h;have g:(eY next N 0)=([],List.replicate N false):=rfl;have H:(List.replicate N false).getD 0 true=false:=by
    obtain⟨n,rfl⟩:∃n,N=n+1:=⟨N-1,J⟩;rfl
   rw[g];unfold vC;simp only[H];simp
  have:=f J;unfold vC;split
  .exact this
  simp
def Kj(next:Nat->Nat)(N:Nat):∀k,(eY next N k).1.length<=k:=by
 intro k
 induction k with
 |zero=>simp[eY]
 |succ k f=>
  rw[yX];unfold vC;split
  .omega
  simp;exact f
def Km(s:eH):zi s<=I s:=Hn
def awB{L:ae}{ax:aG}(hl:I L<=1000000)(hJ:I ax<=1000000)(lN:∀x∈ax,x<I L)(hp:∀v l,L[v]?=some l->(l.kind==2)=false->v∈ax):
  ∀(F x:Nat) (dQ:eH) (w:aG) (h:bn) (aj:aB),h 1=.one (.bh 3264000000 1 0)->aj 3264000000=(1,some (.var (oz f L)))->
   h 4=.one (.hsl 3264128064 1 1 0 (I ax))->aj 3264128064=(1,some (.arr 3 1 (cg ax)))->h 5=.one (.hsl 3264192512 1 1 0 (I dQ))->aj 3264192512=(1,some (.arr 4 1 (eC dQ)))->
   Eu 3264832192 w (h 7) aj->h 8=aC x->x<I dQ->I dQ=2*I L+2*I ax->zi dQ<F->I w+zi dQ<=5000000->
   (∀A j,A 1=h 1->A 3=h 3->A 4=h 4->A 5=h 5->A 6=h 6->j 3264000000=aj 3264000000->j 3264128064=aj 3264128064->j 3264896192=aj 3264896192->j 3264896128=aj 3264896128->
    j 3264192512=(1,some (.arr 4 1 (eC (gW (jx L ax) F x dQ).2)))->Eu 3264832192 (w++(gW (jx L ax) F x dQ).1) (A 7) j->Q .normal A j)->
   bP S .all (.loop M3) (ld 2 Q) h aj:=by
 intro F
 induction F with
 |zero=>intro x dQ w h aj _ _ _ _ _ _ _ _ _ _ ab;omega
 |succ F ih=>
  intro x dQ w h aj y E u z m D ho h8 B hsl hu hw H;obtain⟨b,R⟩:=aR B;have mw:=qG R;have zM:dQ.getD x true=b:=by rw[dS,R];rfl
  unfold gW at H;rw[zM]at H;refine mx ?_;cases b with
  |true=>
   simp only[go_sem,M3,m,D,h8,B,mw,af,au];refine H _ _ ?_ ?_ ?_ ?_ ?_ rfl rfl rfl rfl D ?_;all_goals simp only[go_sem]
   exact ho
  |false=>
   have HD:=Ns R;have pt:=ayL f L ax x hl hJ lN hp J;have ke:=Vz (d:=x) lN hp J;have ig:=Lp dQ x true;have nk:∀n:Nat,n<=5000001->n*8<=140737488355328:=λn hn=>J;have Ji:List.take (I ax) (cg ax)=cg ax:=e_ aQ;rcases ho with⟨rfl,Z⟩|⟨Ub,g,Z,hC⟩
   .simp only[go_sem,M3,y,E,u,z,m,D,Z,h8,B,mw,ig,Ji,ajw,dP pt,af,au];refine ih (jx L ax x) (dQ.set x true) [x] _ _ ?_ ?_ ?_ ?_ ?_ ?_ ?_ ?_ (by simpa [hsl]using ke) (by simpa using hsl) J (by simp;omega) ?_
    .simp only[go_sem,y]
    .simp only[go_sem,E]
    .simp only[go_sem,u]
    .simp only[go_sem,z]
    .simp only[go_sem,m,kI]
    .simp only[go_sem]
    .simp only[go_sem];exact .inr ⟨aQ,_,rfl,rfl⟩
    .simp only[go_sem]
    intro A j Y q3 q4 q5 X M b2 T b4 N O;refine H A j ?_ ?_ ?_ ?_ ?_ ?_ ?_ ?_ ?_ N ?_
    .rw[Y];simp only[go_sem]
    .rw[q3];simp only[go_sem]
    .rw[q4];simp only[go_sem]
    .rw[q5];simp only[go_sem]
    .rw[X];simp only[go_sem]
    .rw[M];simp only[go_sem]
    .rw[b2];simp only[go_sem]
    .rw[T];simp only[go_sem]
    .rw[b4];simp only[go_sem]
    simpa using O
   have wP:List.take (I w) (cg w)=cg w:=e_ aQ;have iQ:=nk (I w+1) J;simp only[go_sem,M3,y,E,u,z,m,D,Z,h8,B,mw,ig,Ji,ajw,dP pt,hC,wP,iQ,af,au];refine ih (jx L ax x) (dQ.set x true) (w++[x]) _ _ ?_ ?_ ?_ ?_ ?_ ?_ ?_ ?_ (by simpa [hsl]using ke) (by simpa using hsl) J (by simp;omega) ?_
   .simp only[go_sem,y]
   .simp only[go_sem,E]
   .simp only[go_sem,u]
   .simp only[go_sem,z]
   .simp only[go_sem,m,kI]
   .simp only[go_sem]
   .simp only[go_sem];exact .inr ⟨aQ,g+1,aQ,by simp[aT]⟩
   .simp only[go_sem]
   intro A j Y q3 q4 q5 X M b2 T b4 N O;refine H A j ?_ ?_ ?_ ?_ ?_ ?_ ?_ ?_ ?_ N ?_
   .rw[Y];simp only[go_sem]
   .rw[q3];simp only[go_sem]
   .rw[q4];simp only[go_sem]
   .rw[q5];simp only[go_sem]
   .rw[X];simp only[go_sem]
   .rw[M];simp only[go_sem]
   .rw[b2];simp only[go_sem]
   .rw[T];simp only[go_sem]
   .rw[b4];simp only[go_sem]
   simpa using O
def aGy(f:Nat)(o:List aG)(v:V)(aj:aB):Prop:=(o=[]/\v=.one (.p .nils))\/(o≠[]/\ ∃g,v=.one (.hsl f g 1 0 (I o))/\aj f=(g,some (.arr 110 1 (o.map λw=>[uA w]))))
def ago(f:Int)(L:ae)(hl:I L<=1000000)(D:aL L≠[])(hp:∀v l,L[v]?=some l->(l.kind==2)=false->v∈aL L):
  aJ S 51 [df f L] (.one (.own 110 1 ((fO (jx L (aL L)) (2*I L+2*I (aL L))).map λw=>[uA w]))):=by
 have pa:=alY f L hl;have lN:∀x∈aL L,x<I L:=λx ac=>U9 ac;have hJ:I (aL L)<=I L:=uq L (I L);unfold QI at pa;rw[aw D]at pa;generalize aL L=ax at D hp pa lN hJ;have m1:=tP (a:=I L) J;have m2:=tP (a:=I ax) J;have m3:=vR (a:=2*I L) (b:=2*I ax) J;have kL:I (cg ax)=I ax:=aQ;have nk:2*I L+2*I ax<=140737488355328:=J;have wN:List.replicate (2*I L+2*I ax) [PV.bool false]=eC (List.replicate (2*I L+2*I ax) false):=aQ
 refine bt aDS ?_;have Y:∀(aj:aB),eF aj [] 3264128064 ((RV.one (.own 3 1 (cg ax))).fi (S.lone 3264128064))=some (.one (.hsl 3264128064 ((aj 3264128064).1+1) 1 0 (I ax)),[(3264128064,((aj 3264128064).1+1,some (.arr 3 1 (cg ax))))]):=by intro aj;have fq:S.lone 3264128064=false:=ah;rw[fq];simp only[RV.fi,eF,true_or,if_true,jf,iV,ja,kC,d_,sJ,ox,cH,lg]
 simp only[go_sem,i51,agN,a_ pa (Y _),m1,m2,m3,nk,wN,af,au];generalize hN:2*I L+2*I ax=N at nk;refine c_ (λk h aj=>h 1=.one (.bh 3264000000 1 0)/\aj 3264000000=(1,some (.var (oz f L)))/\h 4=.one (.hsl 3264128064 1 1 0 (I ax))/\aj 3264128064=(1,some (.arr 3 1 (cg ax)))/\
   h 5=.one (.hsl 3264192512 1 1 0 N)/\aj 3264192512=(1,some (.arr 4 1 (eC (eY (jx L ax) N k).2)))/\h 6=aC k/\aGy 3264896192 (eY (jx L ax) N k).1 (h 3) aj) 0 N (cE _) ?_ ?_
 .simp only[go_sem];exact⟨rfl,rfl,.inl ⟨rfl,rfl⟩⟩
 rintro k h aj hk ⟨F,T,B,O,y,z,R,j⟩
 have H:=Gy (jx L ax) N k;have Hx:=Kj (jx L ax) N k;by_cases A:k<N
 .have aO:((k:Int)<(N:Int)):=J;have w1:=cP (n:=k) J;have hs:=yX (jx L ax) N k;generalize dh:eY (jx L ax) N k=st at H hs j z Hx;obtain⟨out,dQ⟩:=st;simp only at H j z Hx;obtain⟨b,hb⟩:=aR (L:=dQ) (k:=k) J;have mw:=qG hb;unfold vC at hs;have zM:dQ.getD k true=b:=by rw[dS,hb];rfl
  simp only[zM]at hs;cases b with
  |true=>have hs:eY (jx L ax) N (k+1)=(out,dQ):=hs;simp only[go_sem,Q3,Sz,F,T,B,O,y,z,R,A,aO,mw,w1,hs,af,au];exact j
  |false=>
   have hs:eY (jx L ax) N (k+1)=(out++[(gW (jx L ax) (N+1) k dQ).1],(gW (jx L ax) (N+1) k dQ).2):=by rw[hs,H];rfl
   have ab:=Km dQ;simp only[go_sem,Q3,F,T,B,O,y,z,R,A,aO,mw,af,au];refine awB (f:=f) hl J lN hp (N+1) k dQ [] _ _ ?_ ?_ ?_ ?_ ?_ ?_ ?_ ?_ J J J (by simp;omega) ?_
   .simp only[go_sem,F]
   .simp only[go_sem,T]
   .simp only[go_sem,B]
   .simp only[go_sem,O]
   .simp only[go_sem,y,H]
   .simp only[go_sem,z]
   .exact .inl ⟨rfl,by simp only[go_sem]⟩
   .simp only[go_sem]
   intro aE ao q1 Q q4 Z q6 b1 b2 b3 b4 E b6;simp only[go_sem,F,B,y,R]at q1 Q q4 Z q6;simp only[go_sem,T,O]at b1 b2 b3 b4;have X:(gW (jx L ax) (N+1) k dQ).1≠[]:=by unfold gW;rw[zM];simp
   rw[fN]at b6;rcases b6 with⟨e,_⟩|⟨_,g,M,u⟩
   .exact(X e).elim
   generalize gW (jx L ax) (N+1) k dQ=wf at hs X E M u;obtain⟨w,jm⟩:=wf;simp only at hs X E M u;have wP:List.take (I w) (cg w)=cg w:=e_ aQ;rcases j with⟨rfl,m⟩|⟨j,go,m,hO⟩
   .rw[m]at Q;simp only[go_sem,acd,Sz,q1,Q,q4,Z,q6,b1,b2,E,M,u,wP,w1,hs,A,zC,dk,af,au];exact .inr ⟨aQ,_,rfl,by simp[aT]⟩
   rw[m]at Q;have HC:List.take (I out) (out.map λw=>[uA w])=out.map λw=>[uA w]:=e_ aQ;have iQ:(I out+1)*24<=140737488355328:=J;simp only[go_sem,acd,Sz,q1,Q,q4,Z,q6,b1,b2,b3,E,M,u,hO,wP,HC,iQ,w1,hs,A,zC,dk,af,au];exact .inr ⟨aQ,go+1,aQ,by simp[aT]⟩
 have:k=N:=J;subst this;have he:fO (jx L ax) k=(eY (jx L ax) k k).1:=rfl;rw[<-he]at j;rcases j with⟨e,m⟩|⟨j,g,m,u⟩
 .exact(aBp (jx L ax) k k (by have:=jr.2 D;omega) (by have:=jr.2 D;omega) e).elim
 simp only[go_sem,Q3,amy,m,y,R,dW,af,au];exact E3 u aQ
abbrev M1(l:aa):eG:=[.p (.int .i64 l.kind),.p (.int .i64 l.gate),.p (.int .i64 l.ay),.p (.int .i64 l.id),.p (.int .i64 l.sign),.p (.bool l.over)]
def ko(l o:aa):Bool:=(o.kind==l.kind&&o.gate==l.gate)&&o.ay==l.ay
def jM(l o:aa):Bool:=((o.kind==l.kind&&o.id==l.id)&&o.sign==l.sign)&& !(o.over==l.over)
def wW(f:Int)(L:ae)(l:aa):Bool:= !(((((((l.id !=0||l.sign !=0)||l.over)||decide (l.gate<0))||decide (f<l.gate))||decide (l.ay<1))||decide ((ai (qA l.gate) L:Int)<l.ay))||(((ai (ko l) L:Nat):Int)!=1))
def oj(L:ae)(l:aa):Bool:= !((((((l.gate !=0||l.ay !=0)||(l.sign !=1&&l.sign != -1))||decide (l.id<1))||decide (((ai aa.aF L/2:Nat):Int)<l.id))||(((ai (jM l) L:Nat):Int)!=1))||(((ai (nC l.id) L:Nat):Int)!=2))
def gJ(f:Int)(L:ae)(l:aa):Bool:=if l.kind==1 then wW f L l else if l.kind==2 then oj L l else false
def aHq{f:Int}{L:ae}{l:aa}{i:Nat}{aj:aB}(hl:I L<=1000000)(Y:h 1=.one (.bh 3200000000 1 0))(hB:aj 3200000000=(1,some (.var (oz f L))))(h3:h 3=aC i)(X:h 4=.one (.bh 3200256320 g 0))(Z:aj 3200256320=(g,some (.var (M1 l))))
  (h5:h 5=aC 0) (h6:h 6=aC 0) (h7:h 7=aC 0)
  (hq:∀z T,z 1=h 1->z 3=h 3->z 4=h 4->T 3200000000=aj 3200000000->T 3200256320=aj 3200256320->z 5=aC (ai (ko l) L)->z 6=aC (ai (jM l) L)->Q .normal z T):
  bP S .all (.loop vm) (ld 2 Q) h aj:=by
 refine c_ (λk z T=>z 1=.one (.bh 3200000000 1 0)/\T 3200000000=(1,some (.var (oz f L)))/\z 3=aC i/\z 4=.one (.bh 3200256320 g 0)/\T 3200256320=(g,some (.var (M1 l)))/\
   z 5=aC (ai (ko l) (L.take k))/\z 6=aC (ai (jM l) (L.take k))/\z 7=aC k) 0 (I L) (cE _) ?_ ?_
 .exact⟨Y,hB,h3,X,Z,h5,h6,h7⟩
 rintro k z T hk ⟨g1,x,m,D,fh,y,u,B⟩
 by_cases A:k<I L
 .obtain⟨o,H⟩:=aR A;have O:=fP H;have N:((k:Int)<(I L:Int)):=J;have b5:=Au (ko l) L k;have b6:=Au (jM l) L k;have F:=cP (n:=k) J;have R:=cP (n:=ai (ko l) (L.take k)) J;have M:=cP (n:=ai (jM l) (L.take k)) J;cases E:(o.kind==l.kind)with
  |true=>
   cases e1:(o.gate==l.gate)with
   |true=>
    cases e2:(o.ay==l.ay)with
    |true=>
     cases j:(o.id==l.id)with
     |true=>
      cases e4:(o.sign==l.sign)with
      |true=>
       cases e5:(o.over==l.over)with
       |true=>have c4:=tU (p:=ko l) H (by simp only[ko,E,e1,e2,j,e4,e5];rfl);have ft:=lW (p:=jM l) H (by simp only[jM,E,e1,e2,j,e4,e5];rfl);simp only[go_sem,vm,g1,x,m,D,fh,y,u,B,O,pF,aa.ps,N,F,R,M,E,e1,e2,j,e4,e5,c4,ft,af,au];first|exact A|exact⟨A,rfl⟩|exact⟨A,rfl,rfl⟩
       |false=>have c4:=tU (p:=ko l) H (by simp only[ko,E,e1,e2,j,e4,e5];rfl);have ft:=tU (p:=jM l) H (by simp only[jM,E,e1,e2,j,e4,e5];rfl);simp only[go_sem,vm,g1,x,m,D,fh,y,u,B,O,pF,aa.ps,N,F,R,M,E,e1,e2,j,e4,e5,c4,ft,af,au];first|exact A|exact⟨A,rfl⟩|exact⟨A,rfl,rfl⟩
      |false=>have c4:=tU (p:=ko l) H (by simp only[ko,E,e1,e2,j,e4];rfl);have ft:=lW (p:=jM l) H (by simp only[jM,E,e1,e2,j,e4];rfl);simp only[go_sem,vm,g1,x,m,D,fh,y,u,B,O,pF,aa.ps,N,F,R,M,E,e1,e2,j,e4,c4,ft,af,au];first|exact A|exact⟨A,rfl⟩|exact⟨A,rfl,rfl⟩
     |false=>have c4:=tU (p:=ko l) H (by simp only[ko,E,e1,e2,j];rfl);have ft:=lW (p:=jM l) H (by simp only[jM,E,e1,e2,j];rfl);simp only[go_sem,vm,g1,x,m,D,fh,y,u,B,O,pF,aa.ps,N,F,R,M,E,e1,e2,j,c4,ft,af,au];first|exact A|exact⟨A,rfl⟩|exact⟨A,rfl,rfl⟩
    |false=>
     cases j:(o.id==l.id)with
     |true=>
      cases e4:(o.sign==l.sign)with
      |true=>
       cases e5:(o.over==l.over)with
       |true=>have c4:=lW (p:=ko l) H (by simp only[ko,E,e1,e2,j,e4,e5];rfl);have ft:=lW (p:=jM l) H (by simp only[jM,E,e1,e2,j,e4,e5];rfl);simp only[go_sem,vm,g1,x,m,D,fh,y,u,B,O,pF,aa.ps,N,F,R,M,E,e1,e2,j,e4,e5,c4,ft,af,au];first|exact A|exact⟨A,rfl⟩|exact⟨A,rfl,rfl⟩
       |false=>have c4:=lW (p:=ko l) H (by simp only[ko,E,e1,e2,j,e4,e5];rfl);have ft:=tU (p:=jM l) H (by simp only[jM,E,e1,e2,j,e4,e5];rfl);simp only[go_sem,vm,g1,x,m,D,fh,y,u,B,O,pF,aa.ps,N,F,R,M,E,e1,e2,j,e4,e5,c4,ft,af,au];first|exact A|exact⟨A,rfl⟩|exact⟨A,rfl,rfl⟩
      |false=>have c4:=lW (p:=ko l) H (by simp only[ko,E,e1,e2,j,e4];rfl);have ft:=lW (p:=jM l) H (by simp only[jM,E,e1,e2,j,e4];rfl);simp only[go_sem,vm,g1,x,m,D,fh,y,u,B,O,pF,aa.ps,N,F,R,M,E,e1,e2,j,e4,c4,ft,af,au];first|exact A|exact⟨A,rfl⟩|exact⟨A,rfl,rfl⟩
     |false=>have c4:=lW (p:=ko l) H (by simp only[ko,E,e1,e2,j];rfl);have ft:=lW (p:=jM l) H (by simp only[jM,E,e1,e2,j];rfl);simp only[go_sem,vm,g1,x,m,D,fh,y,u,B,O,pF,aa.ps,N,F,R,M,E,e1,e2,j,c4,ft,af,au];first|exact A|exact⟨A,rfl⟩|exact⟨A,rfl,rfl⟩
   |false=>
    cases j:(o.id==l.id)with
    |true=>
     cases e4:(o.sign==l.sign)with
     |true=>
      cases e5:(o.over==l.over)with
      |true=>have c4:=lW (p:=ko l) H (by simp only[ko,E,e1,j,e4,e5];rfl);have ft:=lW (p:=jM l) H (by simp only[jM,E,e1,j,e4,e5];rfl);simp only[go_sem,vm,g1,x,m,D,fh,y,u,B,O,pF,aa.ps,N,F,R,M,E,e1,j,e4,e5,c4,ft,af,au];first|exact A|exact⟨A,rfl⟩|exact⟨A,rfl,rfl⟩
      |false=>have c4:=lW (p:=ko l) H (by simp only[ko,E,e1,j,e4,e5];rfl);have ft:=tU (p:=jM l) H (by simp only[jM,E,e1,j,e4,e5];rfl);simp only[go_sem,vm,g1,x,m,D,fh,y,u,B,O,pF,aa.ps,N,F,R,M,E,e1,j,e4,e5,c4,ft,af,au];first|exact A|exact⟨A,rfl⟩|exact⟨A,rfl,rfl⟩
     |false=>have c4:=lW (p:=ko l) H (by simp only[ko,E,e1,j,e4];rfl);have ft:=lW (p:=jM l) H (by simp only[jM,E,e1,j,e4];rfl);simp only[go_sem,vm,g1,x,m,D,fh,y,u,B,O,pF,aa.ps,N,F,R,M,E,e1,j,e4,c4,ft,af,au];first|exact A|exact⟨A,rfl⟩|exact⟨A,rfl,rfl⟩
    |false=>have c4:=lW (p:=ko l) H (by simp only[ko,E,e1,j];rfl);have ft:=lW (p:=jM l) H (by simp only[jM,E,e1,j];rfl);simp only[go_sem,vm,g1,x,m,D,fh,y,u,B,O,pF,aa.ps,N,F,R,M,E,e1,j,c4,ft,af,au];first|exact A|exact⟨A,rfl⟩|exact⟨A,rfl,rfl⟩
  |false=>have c4:=lW (p:=ko l) H (by simp only[ko,E];rfl);have ft:=lW (p:=jM l) H (by simp only[jM,E];rfl);simp only[go_sem,vm,g1,x,m,D,fh,y,u,B,O,pF,aa.ps,N,F,R,M,E,c4,ft,af,au];first|exact A|exact⟨A,rfl⟩|exact⟨A,rfl,rfl⟩
 have:k=I L:=J;subst this;rw[jN]at y u;simp only[go_sem,vm,g1,x,B,dW,af,au];refine hq _ _ ?_ ?_ ?_ ?_ ?_ ?_ ?_;all_goals simp only[go_sem,g1,x,m,D,fh,y,u,Y,hB,h3,X,Z]
def awc{f:Int}{L:ae}{l:aa}{i:Nat}{aj:aB}(hl:I L<=1000000)(T:h 1=.one (.bh 3200000000 1 0))(hB:aj 3200000000=(1,some (.var (oz f L))))(Y:h 3=aC i)(N:h 4=.one (.bh 3200256320 g 0))(R:aj 3200256320=(g,some (.var (M1 l))))
  (X:h 5=aC (ai (ko l) L)) (h6:h 6=aC (ai (jM l) L))
  (hq:gJ f L l->∀aE,aE 1=h 1->aE 3=h 3->Q .normal aE aj) (hr:gJ f L l=false->∀aE,aE 2=.one (.p (.bool false))->Q .ret aE aj):
  bP S .all om Q h aj:=by
 have u:=aBc f L hl l.gate;have x:=adz f L hl;have m:=aHn f L hl l.id;have ab:=qk aa.aF L;have Z:=wrap_small (n:=ai aa.aF L/2) J;cases j:(l.kind==1)with
 |true=>
  cases A:(l.id !=0)with
  |true=>
   have y:gJ f L l=false:=by simp only[gJ,j,wW,A];rfl
   simp only[go_sem,om,T,hB,Y,N,R,X,h6,ack,tE,RJ,ek u,ek x,ek m,ik,fF,Z,j,A,af,au];refine⟨ah,hr y _ ?_⟩;simp only[go_sem]
  |false=>
   cases z:(l.sign !=0)with
   |true=>
    have y:gJ f L l=false:=by simp only[gJ,j,wW,A,z];rfl
    simp only[go_sem,om,T,hB,Y,N,R,X,h6,ack,tE,RJ,ek u,ek x,ek m,ik,fF,Z,j,A,z,af,au];refine⟨ah,hr y _ ?_⟩;simp only[go_sem]
   |false=>
    cases B:(l.over)with
    |true=>
     have y:gJ f L l=false:=by simp only[gJ,j,wW,A,z,B];rfl
     simp only[go_sem,om,T,hB,Y,N,R,X,h6,ack,tE,RJ,ek u,ek x,ek m,ik,fF,Z,j,A,z,B,af,au];refine⟨ah,hr y _ ?_⟩;simp only[go_sem]
    |false=>
     cases H:(decide (l.gate<0))with
     |true=>
      have BK:(l.gate<0):=lp H;have y:gJ f L l=false:=by simp only[gJ,j,wW,A,z,B,H];rfl
      simp only[go_sem,om,T,hB,Y,N,R,X,h6,ack,tE,RJ,ek u,ek x,ek m,ik,fF,Z,j,A,z,B,BK,af,au];refine⟨ah,hr y _ ?_⟩;simp only[go_sem]
     |false=>
      cases D:(decide (f<l.gate))with
      |true=>
       have BK:¬(l.gate<0):=gU H;have M:(f<l.gate):=lp D;have y:gJ f L l=false:=by simp only[gJ,j,wW,A,z,B,H,D];rfl
       simp only[go_sem,om,T,hB,Y,N,R,X,h6,ack,tE,RJ,ek u,ek x,ek m,ik,fF,Z,j,A,z,B,BK,M,af,au];refine⟨ah,hr y _ ?_⟩;simp only[go_sem]
      |false=>
       cases F:(decide (l.ay<1))with
       |true=>
        have BK:¬(l.gate<0):=gU H;have M:¬(f<l.gate):=gU D;have O:(l.ay<1):=lp F;have y:gJ f L l=false:=by simp only[gJ,j,wW,A,z,B,H,D,F];rfl
        simp only[go_sem,om,T,hB,Y,N,R,X,h6,ack,tE,RJ,ek u,ek x,ek m,ik,fF,Z,j,A,z,B,BK,M,O,af,au];refine⟨ah,hr y _ ?_⟩;simp only[go_sem]
       |false=>
        cases a7:(decide ((ai (qA l.gate) L:Int)<l.ay))with
        |true=>
         have BK:¬(l.gate<0):=gU H;have M:¬(f<l.gate):=gU D;have O:¬(l.ay<1):=gU F;have N4:((ai (qA l.gate) L:Int)<l.ay):=lp a7;have y:gJ f L l=false:=by simp only[gJ,j,wW,A,z,B,H,D,F,a7];rfl
         simp only[go_sem,om,T,hB,Y,N,R,X,h6,ack,tE,RJ,ek u,ek x,ek m,ik,fF,Z,j,A,z,B,BK,M,O,N4,af,au];refine⟨ah,hr y _ ?_⟩;simp only[go_sem]
        |false=>
         cases a8:(((ai (ko l) L:Nat):Int)!=1)with
         |true=>
          have BK:¬(l.gate<0):=gU H;have M:¬(f<l.gate):=gU D;have O:¬(l.ay<1):=gU F;have N4:¬((ai (qA l.gate) L:Int)<l.ay):=gU a7;have y:gJ f L l=false:=by simp only[gJ,j,wW,A,z,B,H,D,F,a7,a8];rfl
          simp only[go_sem,om,T,hB,Y,N,R,X,h6,ack,tE,RJ,ek u,ek x,ek m,ik,fF,Z,j,A,z,B,BK,M,O,N4,a8,af,au];refine⟨ah,hr y _ ?_⟩;simp only[go_sem]
         |false=>
          have BK:¬(l.gate<0):=gU H;have M:¬(f<l.gate):=gU D;have O:¬(l.ay<1):=gU F;have N4:¬((ai (qA l.gate) L:Int)<l.ay):=gU a7;have y:gJ f L l:=by simp only[gJ,j,wW,A,z,B,H,D,F,a7,a8];rfl
          simp only[go_sem,om,T,hB,Y,N,R,X,h6,ack,tE,RJ,ek u,ek x,ek m,ik,fF,Z,j,A,z,B,BK,M,O,N4,a8,af,au];refine⟨ah,hq y _ ?_ ?_⟩;all_goals simp only[go_sem]
 |false=>
  cases E:(l.kind==2)with
  |true=>
   cases A:(l.gate !=0)with
   |true=>
    have y:gJ f L l=false:=by simp only[gJ,j,E,oj,A];rfl
    simp only[go_sem,om,T,hB,Y,N,R,X,h6,ack,tE,RJ,ek u,ek x,ek m,ik,fF,Z,j,E,A,af,au];refine⟨ah,hr y _ ?_⟩;simp only[go_sem]
   |false=>
    cases z:(l.ay !=0)with
    |true=>
     have y:gJ f L l=false:=by simp only[gJ,j,E,oj,A,z];rfl
     simp only[go_sem,om,T,hB,Y,N,R,X,h6,ack,tE,RJ,ek u,ek x,ek m,ik,fF,Z,j,E,A,z,af,au];refine⟨ah,hr y _ ?_⟩;simp only[go_sem]
    |false=>
     cases B:(l.sign !=1)with
     |true=>
      cases H:(l.sign != -1)with
      |true=>
       have y:gJ f L l=false:=by simp only[gJ,j,E,oj,A,z,B,H];rfl
       simp only[go_sem,om,T,hB,Y,N,R,X,h6,ack,tE,RJ,ek u,ek x,ek m,ik,fF,Z,j,E,A,z,B,H,af,au];refine⟨ah,hr y _ ?_⟩;simp only[go_sem]
      |false=>
       cases D:(decide (l.id<1))with
       |true=>
        have M:(l.id<1):=lp D;have y:gJ f L l=false:=by simp only[gJ,j,E,oj,A,z,B,H,D];rfl
        simp only[go_sem,om,T,hB,Y,N,R,X,h6,ack,tE,RJ,ek u,ek x,ek m,ik,fF,Z,j,E,A,z,B,H,M,af,au];refine⟨ah,hr y _ ?_⟩;simp only[go_sem]
       |false=>
        cases F:(decide (((ai aa.aF L/2:Nat):Int)<l.id))with
        |true=>
         have M:¬(l.id<1):=gU D;have O:(((ai aa.aF L/2:Nat):Int)<l.id):=lp F;have y:gJ f L l=false:=by simp only[gJ,j,E,oj,A,z,B,H,D,F];rfl
         simp only[go_sem,om,T,hB,Y,N,R,X,h6,ack,tE,RJ,ek u,ek x,ek m,ik,fF,Z,j,E,A,z,B,H,M,O,af,au];refine⟨ah,hr y _ ?_⟩;simp only[go_sem]
        |false=>
         cases a7:(((ai (jM l) L:Nat):Int)!=1)with
         |true=>
          have M:¬(l.id<1):=gU D;have O:¬(((ai aa.aF L/2:Nat):Int)<l.id):=gU F;have y:gJ f L l=false:=by simp only[gJ,j,E,oj,A,z,B,H,D,F,a7];rfl
          simp only[go_sem,om,T,hB,Y,N,R,X,h6,ack,tE,RJ,ek u,ek x,ek m,ik,fF,Z,j,E,A,z,B,H,M,O,a7,af,au];refine⟨ah,hr y _ ?_⟩;simp only[go_sem]
         |false=>
          cases a8:(((ai (nC l.id) L:Nat):Int)!=2)with
          |true=>
           have M:¬(l.id<1):=gU D;have O:¬(((ai aa.aF L/2:Nat):Int)<l.id):=gU F;have y:gJ f L l=false:=by simp only[gJ,j,E,oj,A,z,B,H,D,F,a7,a8];rfl
           simp only[go_sem,om,T,hB,Y,N,R,X,h6,ack,tE,RJ,ek u,ek x,ek m,ik,fF,Z,j,E,A,z,B,H,M,O,a7,a8,af,au];refine⟨ah,hr y _ ?_⟩;simp only[go_sem]
          |false=>
           have M:¬(l.id<1):=gU D;have O:¬(((ai aa.aF L/2:Nat):Int)<l.id):=gU F;have y:gJ f L l:=by simp only[gJ,j,E,oj,A,z,B,H,D,F,a7,a8];rfl
           simp only[go_sem,om,T,hB,Y,N,R,X,h6,ack,tE,RJ,ek u,ek x,ek m,ik,fF,Z,j,E,A,z,B,H,M,O,a7,a8,af,au];refine⟨ah,hq y _ ?_ ?_⟩;all_goals simp only[go_sem]
     |false=>
      cases D:(decide (l.id<1))with
      |true=>
       have M:(l.id<1):=lp D;have y:gJ f L l=false:=by simp only[gJ,j,E,oj,A,z,B,D];rfl
       simp only[go_sem,om,T,hB,Y,N,R,X,h6,ack,tE,RJ,ek u,ek x,ek m,ik,fF,Z,j,E,A,z,B,M,af,au];refine⟨ah,hr y _ ?_⟩;simp only[go_sem]
      |false=>
       cases F:(decide (((ai aa.aF L/2:Nat):Int)<l.id))with
       |true=>
        have M:¬(l.id<1):=gU D;have O:(((ai aa.aF L/2:Nat):Int)<l.id):=lp F;have y:gJ f L l=false:=by simp only[gJ,j,E,oj,A,z,B,D,F];rfl
        simp only[go_sem,om,T,hB,Y,N,R,X,h6,ack,tE,RJ,ek u,ek x,ek m,ik,fF,Z,j,E,A,z,B,M,O,af,au];refine⟨ah,hr y _ ?_⟩;simp only[go_sem]
       |false=>
        cases a7:(((ai (jM l) L:Nat):Int)!=1)with
        |true=>
         have M:¬(l.id<1):=gU D;have O:¬(((ai aa.aF L/2:Nat):Int)<l.id):=gU F;have y:gJ f L l=false:=by simp only[gJ,j,E,oj,A,z,B,D,F,a7];rfl
         simp only[go_sem,om,T,hB,Y,N,R,X,h6,ack,tE,RJ,ek u,ek x,ek m,ik,fF,Z,j,E,A,z,B,M,O,a7,af,au];refine⟨ah,hr y _ ?_⟩;simp only[go_sem]
        |false=>
         cases a8:(((ai (nC l.id) L:Nat):Int)!=2)with
         |true=>
          have M:¬(l.id<1):=gU D;have O:¬(((ai aa.aF L/2:Nat):Int)<l.id):=gU F;have y:gJ f L l=false:=by simp only[gJ,j,E,oj,A,z,B,D,F,a7,a8];rfl
          simp only[go_sem,om,T,hB,Y,N,R,X,h6,ack,tE,RJ,ek u,ek x,ek m,ik,fF,Z,j,E,A,z,B,M,O,a7,a8,af,au];refine⟨ah,hr y _ ?_⟩;simp only[go_sem]
         |false=>
          have M:¬(l.id<1):=gU D;have O:¬(((ai aa.aF L/2:Nat):Int)<l.id):=gU F;have y:gJ f L l:=by simp only[gJ,j,E,oj,A,z,B,D,F,a7,a8];rfl
          simp only[go_sem,om,T,hB,Y,N,R,X,h6,ack,tE,RJ,ek u,ek x,ek m,ik,fF,Z,j,E,A,z,B,M,O,a7,a8,af,au];refine⟨ah,hq y _ ?_ ?_⟩;all_goals simp only[go_sem]
  |false=>
   have y:gJ f L l=false:=by simp only[gJ,j,E];rfl
   simp only[go_sem,om,N,R,j,E,af,au];refine hr y _ ?_;simp only[go_sem]
def xP(f:Int)(L:ae):Bool:=L.all (gJ f L)
def asJ(f:Int)(L:ae)(hl:I L<=1000000):aJ S 50 [df f L] (dn (xP f L)):=by
 refine bt auq ?_;simp only[go_sem,amq,af,au];refine c_ (λk h aj=>h 1=.one (.bh 3200000000 1 0)/\aj 3200000000=(1,some (.var (oz f L)))/\h 3=aC k/\ ∀j l,j<k->L[j]?=some l->gJ f L l) 0 (I L) (cE _) ?_ ?_
 .simp only[go_sem];exact⟨rfl,λj l ab=>absurd ab (mX j)⟩
 rintro k h aj hk ⟨m,y,u,R⟩
 by_cases F:k<I L
 .obtain⟨l,E⟩:=aR F;have hi:=fP E;have aO:((k:Int)<(I L:Int)):=J;have T:=cP (n:=k) J;simp only[go_sem,abn,m,y,u,hi,pF,aa.ps,aO,af,au];refine aHq (f:=f) (l:=l) (g:=(aj 3200256320).1+1) (i:=k) hl ?_ ?_ ?_ ?_ ?_ ?_ ?_ ?_ ?_
  .simp only[go_sem,m]
  .simp only[go_sem,y]
  .simp only[go_sem,u]
  .simp only[go_sem]
  .simp only[go_sem]
  .simp only[go_sem]
  .simp only[go_sem]
  .simp only[go_sem]
  intro aE ao Q z M B N q5 X;simp only[go_sem,m,u]at Q z M;simp only[go_sem,y]at B N;simp only[go_sem];refine awc (f:=f) (l:=l) (i:=k) hl Q B z M N q5 X ?_ ?_
  .intro Px Z e1 O;rw[Q]at e1;rw[z]at O;simp only[go_sem,am6,e1,B,O,T,af,au];refine⟨F,λj l' H Y=>?_⟩;rcases m_.1 H with H|rfl
   .exact R j l' H Y
   rw[E]at Y;cases Y;exact Px
  intro A Z e2;have D:xP f L=false:=by unfold xP;rw[US];exact⟨l,ch E,by simp[A]⟩
  simp only[go_sem,e2,D,af,au]
 have:k=I L:=J;subst this;have D:xP f L:=by unfold xP;rw[jP];intro x hx;obtain⟨j,H,rfl⟩:=List.getElem_of_mem hx;exact R j _ H aQ
 simp only[go_sem,abn,akl,m,y,u,dW,D,af,au]
def aqy{L:ae}{o:aG}{i:Nat}:x∈AQ L o i↔x∈o\/x=i:=by
 unfold AQ;generalize(o.takeWhile (BR L i)).length=bK;constructor
 .intro h;rcases fc.1 h with h|h
  .exact .inl (yk h)
  rcases dk.1 h with h|h
  .exact .inr h
  exact .inl (wx h)
 rintro(h|rfl)
 .rw[<-ot bK o]at h;rcases fc.1 h with h|h
  .exact fc.2 (.inl h)
  exact fc.2 (.inr (dk.2 (.inr h)))
 simp
def apC{L:ae}:∀ {k x:Nat},k<=I L->(x∈qe L k↔x<k/\ ∃l,L[x]?=some l/\l.aM):=by
 intro k
 induction k with
 |zero=>intro x _;simp[qe]
 |succ k g=>
  intro x u;rw[KQ];obtain⟨l,hl⟩:=aR (L:=L) (k:=k) J;have g:=g (x:=x) J;unfold CK;rw[hl];simp only;by_cases hp:l.aM
  .rw[aH hp,aqy,g];constructor
   .rintro (⟨f,H⟩|rfl)
    .exact⟨J,H⟩
    exact⟨J,l,hl,hp⟩
   rintro⟨f,H⟩
   rcases m_.1 f with h|rfl
   .exact .inl ⟨h,H⟩
   exact .inr rfl
  rw[aw hp,g];constructor
  .rintro ⟨f,H⟩;exact⟨J,H⟩
  rintro⟨f,m,j,X⟩
  rcases m_.1 f with h|rfl
  .exact⟨h,m,j,X⟩
  rw[hl]at j;cases j;exact(hp X).elim
def uh{L:ae}:x∈aL L↔ ∃l,L[x]?=some l/\l.aM:=by
 have:=apC (L:=L) (k:=I L) (x:=x) (cT _);have e:aL L=qe L (I L):=rfl;rw[e,this];constructor
 .rintro ⟨_,h⟩;exact h
 rintro⟨l,h,H⟩;exact⟨(cD.1 h).1,l,h,H⟩
def aoM{L:ae}(h:xP f L){v:Nat}{l:aa}(H:L[v]?=some l):l.aM\/l.aF:=by
 have:=(jP.1 h) l (ch H);unfold gJ at this;unfold aa.aM aa.aF;cases j:(l.kind==1)with
 |true=>exact .inl rfl
 |false=>
  cases g:(l.kind==2)with
  |true=>exact .inr rfl
  |false=>rw[j,g]at this;simp at this
def oi(L:ae):Nat:=I (fO (jx L (aL L)) (2*I L+2*I (aL L)))
def nH(f:Int)(L:ae):Bool:=(match L[0]? with|some l=>l.kind==1|none=>true)&&(ai aa.aM L%2==0)&&xP f L&&(oi L==ai aa.aM L+ai aa.aF L/2+2)
def dA(f:Int)(L:ae):Int:=if 400<I L\/200<ai aa.aF L then 7 else if f<0\/40<f then 2 else if L=[]then 0 else if nH f L then 0 else 3
def aFk(f:Int)(L:ae)(hl:I L<=1000000):aJ S 28 [df f L] (fQ (dA f L)):=by
 have j:=adz f L hl;have A:=aoJ f L hl;have z:=asJ f L hl;have Y:=aaS f L hl;have an:=qk aa.aF L;have ie:=qk aa.aM L;refine bt aAO ?_;unfold dA;by_cases h1:400<I L
 .have D:(400:Int)<(I L:Int):=J;simp only[go_sem,AB,h1,D,af,au]
 have D:¬(400:Int)<(I L:Int):=J;by_cases T:200<ai aa.aF L
 .have E:(200:Int)<(ai aa.aF L:Int):=J;simp only[go_sem,AB,h1,D,T,E,tE,dP j,af,au]
 have E:¬(200:Int)<(ai aa.aF L:Int):=J;by_cases M:f<0
 .simp only[go_sem,AB,h1,D,T,E,M,tE,dP j,af,au]
 by_cases Q:40<f
 .simp only[go_sem,AB,h1,D,T,E,M,Q,tE,dP j,af,au]
 have ab:¬(400<I L\/200<ai aa.aF L):=J;have ac:¬(f<0\/40<f):=J;rw[aw ab,aw ac];by_cases he:L=[]
 .subst he;have hz:(((0:Nat):Int)==0):=U;have ad:¬((400:Int)<((0:Nat):Int)):=U;have ag:aJ S 48 [.agg [.p (.int .i64 f),.p (.sl [])]] (fQ (ai aa.aF [])):=j;simp only[go_sem,AB,ad,E,M,Q,tE,dP ag,hz,af,au]
 have H:0<I L:=jr.2 he;obtain⟨l0,O⟩:=aR H;have X:=fP O;have Z:(((I L:Nat):Int)==0)=false:=by simp;omega
 rw[aw he];generalize g:(if nH f L=true then(0:Int)else 3)=r;cases F:(l0.kind==1)with
 |false=>
  have m:(l0.kind !=1):=by simp[bne,F]
  have x:nH f L=false:=by simp only[nH,O,F];rfl
  rw[x]at g;have g:(3:Int)=r:=g;subst g;simp only[go_sem,AB,D,E,M,Q,tE,dP j,Z,H3,dP A,X,pF,aa.ps,m,H,af,au];exact aI
 |true=>
  have m:(l0.kind !=1)=false:=by simp[bne,F]
  cases y:(ai aa.aM L%2==0)with
  |false=>
   have B:(((ai aa.aM L%2:Nat):Int)!=0):=by simp at y |-;omega
   have x:nH f L=false:=by simp only[nH,O,F,y];rfl
   rw[x]at g;have g:(3:Int)=r:=g;subst g;simp only[go_sem,AB,D,E,M,Q,tE,dP j,Z,H3,dP A,X,pF,aa.ps,m,kz,fF,B,H,af,au];exact aI
  |true=>
   have B:(((ai aa.aM L%2:Nat):Int)!=0)=false:=by simp at y |-;omega
   cases u:xP f L with
   |false=>
    rw[u]at z;have x:nH f L=false:=by simp only[nH,O,F,y,u];rfl
    rw[x]at g;have g:(3:Int)=r:=g;subst g;simp only[go_sem,AB,D,E,M,Q,tE,dP j,Z,H3,dP A,X,pF,aa.ps,m,kz,fF,B,Xd,dC z,H,af,au];exact aI
   |true=>
    rw[u]at z;have aN:aL L≠[]:=λe=>by have:(0:Nat)∈aL L:=uh.2 ⟨l0,O,F⟩;rw[e]at this;cases this
    have hp:∀v l,L[v]?=some l->(l.kind==2)=false->v∈aL L:=λv l x T=>by
     rcases aoM u x with h|h
     .exact uh.2 ⟨l,x,h⟩
     unfold aa.aF at h;rw[T]at h;cases h
    have pw:=ago f L hl aN hp;have PL:oi L=I (fO (jx L (aL L)) (2*I L+2*I (aL L))):=rfl;have iX:=Kj (jx L (aL L)) (2*I L+2*I (aL L)) (2*I L+2*I (aL L));generalize hW:fO (jx L (aL L)) (2*I L+2*I (aL L))=R at pw iX PL;have a1:=vR (a:=ai aa.aM L) (b:=ai aa.aF L/2) J;have a2:IntKind.i64.wrap (((ai aa.aM L+ai aa.aF L/2:Nat):Int)+2)=((ai aa.aM L+ai aa.aF L/2+2:Nat):Int):=vR (a:=ai aa.aM L+ai aa.aF L/2) (b:=2) J;have fq:S.lone 1792513152=false:=ah
    have dZ:∀(aj:aB),eF aj [] 1792513152 ((RV.one (.own 110 1 (R.map λw=>[uA w]))).fi (S.lone 1792513152))=some (.one (.hsl 1792513152 ((aj 1792513152).1+1) 1 0 (I R)),[(1792513152,((aj 1792513152).1+1,some (.arr 110 1 (R.map λw=>[uA w]))))]):=by intro aj;rw[fq];simp only[RV.fi,eF,true_or,if_true,jf,iV,ja,kC,d_,sJ,ox,cH,lg]
    cases c5:(I R==ai aa.aM L+ai aa.aF L/2+2)with
    |false=>
     have N:(((I R:Nat):Int)!=((ai aa.aM L+ai aa.aF L/2+2:Nat):Int)):=by simp at c5 |-;omega
     have x:nH f L=false:=by simp only[nH,O,F,y,u,PL,c5];rfl
     rw[x]at g;have g:(3:Int)=r:=g;subst g;simp only[go_sem,AB,D,E,M,Q,tE,dP j,Z,H3,dP A,X,pF,aa.ps,m,kz,fF,B,Xd,dC z,Y2,ow pw (dZ _),Ny,ek Y,a1,a2,N,H,af,au];exact aI
    |true=>
     have N:(((I R:Nat):Int)!=((ai aa.aM L+ai aa.aF L/2+2:Nat):Int))=false:=by simp at c5 |-;omega
     have x:nH f L:=by simp only[nH,O,F,y,u,PL,c5];rfl
     rw[x]at g;have g:(0:Int)=r:=g;subst g;simp only[go_sem,AB,D,E,M,Q,tE,dP j,Z,H3,dP A,X,pF,aa.ps,m,kz,fF,B,Xd,dC z,Y2,ow pw (dZ _),Ny,ek Y,a1,a2,N,H,af,au];exact aI
def eO(f:Int)(l:aa):Bool:=if l.kind==1 then(((decide (l.gate<0)||decide (f<l.gate))||l.id !=0)||l.sign !=0)||l.over else if l.kind==2 then(l.gate !=0||l.ay !=0)||(l.sign !=1&&l.sign != -1)else true
def aqN(f:Int)(l:aa)(H z X x4 D E:PV):aJ S 141 [xt l,.one (.p (.box [.box [.int .i64 f,H,z,X,x4,D,E]]))] (dn (eO f l)):=by
 refine bt aBE ?_;cases g:(l.kind==1)with
 |true=>
  cases A:(decide (l.gate<0))with
  |true=>
   have B:(l.gate<0):=lp A;have h:eO f l:=by simp only[eO,g,A];rfl
   simp only[go_sem,xO,g,B,h,af,au];exact aI
  |false=>
   cases j:(decide (f<l.gate))with
   |true=>
    have B:¬(l.gate<0):=gU A;have F:(f<l.gate):=lp j;have h:eO f l:=by simp only[eO,g,A,j];rfl
    simp only[go_sem,xO,g,B,F,h,af,au];exact aI
   |false=>
    cases m:(l.id !=0)with
    |true=>
     have B:¬(l.gate<0):=gU A;have F:¬(f<l.gate):=gU j;have h:eO f l:=by simp only[eO,g,A,j,m];rfl
     simp only[go_sem,xO,g,B,F,m,h,af,au];exact aI
    |false=>
     cases x:(l.sign !=0)with
     |true=>
      have B:¬(l.gate<0):=gU A;have F:¬(f<l.gate):=gU j;have h:eO f l:=by simp only[eO,g,A,j,m,x];rfl
      simp only[go_sem,xO,g,B,F,m,x,h,af,au];exact aI
     |false=>
      cases y:(l.over)with
      |true=>
       have B:¬(l.gate<0):=gU A;have F:¬(f<l.gate):=gU j;have h:eO f l:=by simp only[eO,g,A,j,m,x,y];rfl
       simp only[go_sem,xO,g,B,F,m,x,y,h,af,au];exact aI
      |false=>
       have B:¬(l.gate<0):=gU A;have F:¬(f<l.gate):=gU j;have h:eO f l=false:=by simp only[eO,g,A,j,m,x,y];rfl
       simp only[go_sem,xO,g,B,F,m,x,y,h,af,au];exact aI
 |false=>
  cases u:(l.kind==2)with
  |true=>
   cases A:(l.gate !=0)with
   |true=>
    have h:eO f l:=by simp only[eO,g,u,A];rfl
    simp only[go_sem,xO,g,u,A,h,af,au]
   |false=>
    cases j:(l.ay !=0)with
    |true=>
     have h:eO f l:=by simp only[eO,g,u,A,j];rfl
     simp only[go_sem,xO,g,u,A,j,h,af,au]
    |false=>
     cases m:(l.sign !=1)with
     |true=>
      cases x:(l.sign != -1)with
      |true=>
       have h:eO f l:=by simp only[eO,g,u,A,j,m,x];rfl
       simp only[go_sem,xO,g,u,A,j,m,x,h,af,au]
      |false=>
       have h:eO f l=false:=by simp only[eO,g,u,A,j,m,x];rfl
       simp only[go_sem,xO,g,u,A,j,m,x,h,af,au]
     |false=>
      have h:eO f l=false:=by simp only[eO,g,u,A,j,m];rfl
      simp only[go_sem,xO,g,u,A,j,m,h,af,au]
  |false=>
   have h:eO f l:=by simp only[eO,g,u];rfl
   simp only[go_sem,xO,g,u,h,af,au]
abbrev TG(f:Int)(x1 x2 x3 x4 x5 x6:PV):PV:=.fn 141 [] [.box [.box [.int .i64 f,x1,x2,x3,x4,x5,x6]]]
def aqw(f:Int)(L:ae)(B X x x4 y A:PV)(hl:I L<=1000000)(g:B.norm=B/\X.norm=X/\x.norm=x/\x4.norm=x4/\y.norm=y/\A.norm=A):
  ∃k:Int,(0<=k↔L.any (eO f)=true)/\aJ S 167 [.one (.p (c8 L)),.one (.p (TG f B X x x4 y A))] (fQ k):=by
 have M:∀r:Int,(∀(k:Nat) l,L[k]?=some l->eO f l->(∀(j:Nat) m,j<k->L[j]?=some m->eO f m=false)->r=k)->((∀(j:Nat) m,L[j]?=some m->eO f m=false)->r= -1)->
   aJ S 167 [.one (.p (c8 L)),.one (.p (TG f B X x x4 y A))] (fQ r):=by
  intro r iQ sE;refine bt awj ?_;simp only[go_sem,af1,af,au];refine c_ (λk h aj=>h 0=.one (.p (c8 L))/\h 1=.one (.p (TG f B X x x4 y A))/\h 7=aC (I L)/\h 8=aC k/\ ∀j m,j<k->L[j]?=some m->eO f m=false) 0 (I L) (cE _) ?_ ?_
  .simp only[go_sem];exact⟨rfl,λj m D=>absurd D (mX j)⟩
  rintro k h aj Y ⟨R,u,E,N,g⟩
  by_cases T:k<I L
  .obtain⟨l,F⟩:=aR T;have hi:=fP F;have Z:((k:Int)<(I L:Int)):=J;have w1:=cP (n:=k) J;have pb:=aqN f l B X x x4 y A;cases H:eO f l with
   |true=>rw[H]at pb;have O:=iQ k l F H g;subst O;simp only[go_sem,QP,R,u,E,N,hi,pF,aa.ps,Z,anj,aD pb,af,au]
   |false=>
    rw[H]at pb;simp only[go_sem,QP,R,u,E,N,hi,pF,aa.ps,Z,w1,anj,aD pb,af,au];refine⟨T,λj m Q z=>?_⟩;rcases m_.1 Q with Q|rfl
    .exact g j m Q z
    rw[F]at z;cases z;exact H
  have:k=I L:=J;subst this;have O:=sE λj m z=>g j m (cD.1 z).1 z;subst O;simp only[go_sem,QP,ah8,E,N,dW,af,au]
 cases ha:L.any (eO f)with
 |true=>
  have hx:L.findIdx (eO f)<I L:=amv (by simpa using ha);refine⟨(L.findIdx (eO f):Nat),⟨λ_=>rfl,λ_=>J⟩,M _ ?_ ?_⟩
  .intro k l F H g;have Y:=(cD.1 F).1;have u:eO f L[L.findIdx (eO f)]:=aal;rcases Kw (L.findIdx (eO f)) k with D|D|D
   .have:=g _ _ D (sT hx);rw[u]at this;cases this
   .rw[D]
   have:=List.not_of_lt_findIdx D;have e:L[k]=l:=by rw[sT Y]at F;exact lq F
   rw[e,H]at this;simp at this
  intro g;have u:eO f L[L.findIdx (eO f)]:=aal;have:=g _ _ (sT hx);rw[u]at this;cases this
 |false=>refine⟨-1,⟨λD=>J,λD=>by cases D⟩,M _ ?_ (λ_=>rfl)⟩;intro k l F H _;have:=E5.1 ha l (ch F);exact(this H).elim
def atO(f:Int)(L:ae)(g x j x4 m X:PV)(hl:I L<=1000000)(A:g.norm=g/\x.norm=x/\j.norm=j/\x4.norm=x4/\m.norm=m/\X.norm=X):
  aJ S 140 [.one (.p (c8 L)),.one (.p (TG f g x j x4 m X))] (dn (L.any (eO f))):=by
 obtain⟨k,y,z⟩:=aqw f L g x j x4 m X hl A;refine bt asn ?_;cases H:L.any (eO f)with
 |true=>have u:=y.2 H;simp only[go_sem,acC,apn,dP z,u,af,au]
 |false=>
  have u:¬0<=k:=λh=>by rw[y.1 h]at H;cases H
  simp only[go_sem,acC,apn,dP z,u,af,au]
abbrev NF(f:Int)(ls:ae)(x2 x3 x4 x5 x6:PV):PV:=.box [.int .i64 f,c8 ls,x2,x3,x4,x5,x6]
def aBg(f:Int)(L:ae)(x g x4 j X:PV)(hl:I L<=1000000)(h:x.norm=x/\g.norm=g/\x4.norm=x4/\j.norm=j/\X.norm=X):
  aJ S 111 [.one (.p (NF f L x g x4 j X))] (dn (!L.any (eO f))):=by
 have pc:=atO f L (c8 L) x g x4 j X hl ⟨rfl,h.1,h.2.1,h.2.2.1,h.2.2.2.1,h.2.2.2.2⟩;refine bt asv ?_;simp only[go_sem,akD,aDe,aD pc,h.1,h.2.1,h.2.2.1,h.2.2.2.1,h.2.2.2.2,af,au]
def aFn(f:Int)(L:ae)(g:aa)(x y x4 z X:PV)(hl:I L<=1000000)(m:L[0]?=some g):
  aJ S 112 [.one (.p (NF f L x y x4 z X))] (dn (g.kind==1&&ai aa.aM L%2==0)):=by
 have u:=abh f L hl;have j:=fP m;refine bt aqx ?_;have e2:((((ai aa.aM L)%2:Nat):Int)==0)=(ai aa.aM L%2==0):=by
  cases h:(ai aa.aM L%2==0)with
  |true=>simp at h |-;omega
  |false=>simp at h |-;omega
 cases H:(g.kind==1)with
 |true=>simp only[go_sem,ad4,j,pF,aa.ps,H,abS,dP u,kz,fF,e2,af,au]
 |false=>simp only[go_sem,ad4,j,pF,aa.ps,H,af,au]
def pP(g:Nat)(l:aa):Bool:=l.aM&&l.gate==(g:Int)
abbrev di(ls:ae)(g:Nat):Nat:=ai (pP g) ls
def tQ(L:ae)(F k:Nat):aG:=(List.range (F+1)).map λg=>di (L.take k) g
def jh(L:ae)(F:Nat):aG:=(List.range (F+1)).map (di L)
def an3{L:ae}{k G:Nat}(h:G<=F):(tQ L F k)[G]?=some (di (L.take k) G):=by simp[tQ,qx (show G<F+1 by omega)]
def abZ(L:ae)(F:Nat):tQ L F (I L)=jh L F:=by simp[tQ,jh]
def WV(L:ae)(F:Nat):tQ L F 0=List.replicate (F+1) 0:=by apply v_<;>simp[tQ,ai]
def alr{L:ae}{k:Nat}{l:aa}(h:L[k]?=some l)(hp:l.aM=false):tQ L F (k+1)=tQ L F k:=by unfold tQ;congr 1;funext g;exact lW h (by simp[pP,hp])
def alf{L:ae}{k G:Nat}{l:aa}(h:L[k]?=some l)(hp:l.aM)(H:l.gate=(G:Int)):
  tQ L F (k+1)=(tQ L F k).set G (di (L.take k) G+1):=by
 apply v_
 .simp[tQ]
 intro i g f;rw[Gx];simp only[tQ,CC,GQ];split
 .rename_i e;subst e;exact tU h (by simp[pP,hp,H])
 exact lW h (by simp[pP,H];intro _ e;omega)
def LC(o:aG)(k n:Nat):(cg o).set k [.int .i64 (n:Int)]=cg (o.set k n):=by simp[xf]
def MF(o:aG):I (cg o)=I o:=aQ
def acp(n m:Nat):cg (List.replicate n m)=List.replicate n [.int .i64 (m:Int)]:=aQ
def apb(n:Nat)(b:Bool):eC (List.replicate n b)=List.replicate n [.bool b]:=aQ
def PI{L:ae}{k:Nat}{l:aa}(h:L[k]?=some l)(hp:l.aM):c9 L (k+1)= !c9 L k:=by
 unfold c9;rw[tU h hp];cases H:(ai aa.aM (L.take k)%2==0)with
 |true=>simp at H |-;omega
 |false=>simp at H |-;omega
def NH{L:ae}{k:Nat}{l:aa}(h:L[k]?=some l)(hp:l.aM=false):c9 L (k+1)=c9 L k:=by unfold c9;rw[lW h hp]
def jK(L:ae)(i:Nat):Bool:=match L[i]? with|some l=>l.aM&&c9 L i|none=>false
def vk(L:ae)(k:Nat):eH:=(List.range (I L)).map λi=>decide (i<k)&&jK L i
def mg(L:ae):eH:=(List.range (I L)).map (jK L)
def ar7(L:ae):vk L 0=List.replicate (I L) false:=by apply v_<;>simp[vk]
def auV(L:ae):vk L (I L)=mg L:=by unfold vk mg;apply Ax;intro i h;simp[gI.1 h]
def arp(L:ae)(k:Nat):I (vk L k)=I L:=by simp[vk]
def axq{L:ae}{k:Nat}{l:aa}(h:L[k]?=some l)(hp:l.aM=false):vk L (k+1)=vk L k:=by
 unfold vk;apply Ax;intro i H;by_cases e:i=k
 .subst e;simp[jK,h,hp]
 have:(i<k+1)↔(i<k):=J;simp[this]
def aFY{L:ae}{k:Nat}{l:aa}(h:L[k]?=some l)(hp:l.aM):vk L (k+1)=(vk L k).set k (c9 L k):=by
 apply v_
 .simp[vk]
 intro i f H;rw[Gx];simp only[vk,CC,GQ];split
 .rename_i e;subst e;simp[jK,h,hp]
 have:(i<k+1)↔(i<k):=J;simp[this]
def iR(L:ae)(g:Nat):Nat:=((List.range g).map (di L)).sum
def u6(L:ae)(g:Nat):iR L (g+1)=iR L g+di L g:=by simp[iR,r9]
def xR(L:ae)(F k:Nat):aG:=(List.range (F+1)).map λg=>if g<k then iR L g else 0
def Ky(L:ae)(F:Nat):aG:=(List.range (F+1)).map (iR L)
def aye(L:ae)(F:Nat):xR L F 0=List.replicate (F+1) 0:=by apply v_<;>simp[xR]
def avL(L:ae)(F:Nat):xR L F (F+1)=Ky L F:=by unfold xR Ky;apply Ax;intro i h;simp[gI.1 h]
def azc(L:ae)(F k:Nat):I (xR L F k)=F+1:=by simp[xR]
def ax5(L:ae)(F k:Nat):xR L F (k+1)=(xR L F k).set k (iR L k):=by
 apply v_
 .simp[xR]
 intro i h H;rw[Gx];simp only[xR,CC,GQ];by_cases e:k=i
 .subst e;simp
 have:(i<k+1)↔(i<k):=J;simp only[this,aw e]
def Tm{L:ae}{G:Nat}(h:G<=F):(jh L F)[G]?=some (di L G):=by simp[jh,qx (show G<F+1 by omega)]
def axX{L:ae}{G:Nat}(h:G<=F):(Ky L F)[G]?=some (iR L G):=by simp[Ky,qx (show G<F+1 by omega)]
def B2{L:ae}{a b:Nat}(h:a<=b):iR L a<=iR L b:=by
 induction h with
 |refl=>exact cT _
 |step _ f=>rw[u6];omega
def asL(g:Nat)(a:aa):((a.aM&&(decide (0<=a.gate)&&decide (a.gate<((g+1:Nat):Int))))=true)↔((a.aM&&(decide (0<=a.gate)&&decide (a.gate<(g:Int))))=true\/pP g a):=by
 simp only[pP,dj,kB,dI];constructor
 .rintro ⟨H,f,j⟩
  by_cases h:a.gate=(g:Int)
  .exact Or.inr ⟨H,h⟩
  exact Or.inl ⟨H,f,J⟩
 rintro(⟨H,f,j⟩|⟨H,f⟩)
 .exact⟨H,f,J⟩
 exact⟨H,J,J⟩
def azA(g:Nat)(a:aa):(a.aM&&(decide (0<=a.gate)&&decide (a.gate<(g:Int))))=true->pP g a->False:=by simp only[pP,dj,kB,dI];omega
def aed{p q r:aa->Bool}(h:∀a,r a↔(p a\/q a))(H:∀a,p a->q a->False):∀L:ae,L.countP r=L.countP p+L.countP q:=by
 intro L
 induction L with
 |nil=>rfl
 |cons a L f=>rw[vh,vh,vh,f];have j:=h a;have g:=H a;cases E:p a<;>cases m:q a<;>cases u:r a<;>simp_all<;>omega
def aeU(L:ae):∀g,iR L g=ai (λl=>l.aM&&(decide (0<=l.gate)&&decide (l.gate<((g:Nat):Int)))) L:=by
 intro g
 induction g with
 |zero=>symm;show L.countP _=0;rw[Hi];intro a _;simp only[dj,kB];omega
 |succ g f=>rw[u6,f];exact(aed (asL g) (azA g) L).symm
def Wh(L:ae)(g:Nat):iR L g<=I L:=by rw[aeU];exact qk _ _
def fH(L:ae)(l:aa):Nat:=iR L l.gate.toNat+l.ay.toNat-1
def uB(L:ae)(p i:Nat):Bool:=match L[i]? with|some l=>l.aM&&fH L l==p|none=>false
def yy(L:ae)(T k:Nat):eH:=(List.range T).map λp=>(List.range k).any (uB L p)
def Nr(L:ae)(k p:Nat):Nat:=((List.range k).find? (uB L p)).getD 0
def uw(L:ae)(T k:Nat):aG:=(List.range T).map (Nr L k)
def Br(L:ae)(i:Nat):Nat:=match L[i]? with|some l=>if l.aM then fH L l else 0|none=>0
def lB(L:ae)(k:Nat):aG:=(List.range (I L)).map λi=>if i<k then Br L i else 0
def ud(L:ae)(i:Nat):Bool:=match L[i]? with
 |some l=> !l.aM||(decide (1<=l.ay)&&decide (l.ay<=(di L l.gate.toNat:Int)))&& !(List.range i).any (uB L (fH L l))
 |none=>true
def zB(L:ae):Bool:=(List.range (I L)).all (ud L)
def aHw(L:ae)(T:Nat):yy L T 0=List.replicate T false:=by apply v_<;>simp[yy]
def art(L:ae)(T:Nat):uw L T 0=List.replicate T 0:=by apply v_<;>simp[uw,Nr]
def az9(L:ae):lB L 0=List.replicate (I L) 0:=by apply v_<;>simp[lB]
def alF(L:ae)(T k:Nat):I (uw L T k)=T:=by simp[uw]
def aq6(L:ae)(k:Nat):I (lB L k)=I L:=by simp[lB]
def avO{L:ae}{k p:Nat}(h:p<T):(yy L T k)[p]?=some ((List.range k).any (uB L p)):=by simp[yy,h]
def aio{L:ae}{k p:Nat}{l:aa}(h:L[k]?=some l)(hp:l.aM=false):uB L p k=false:=by simp[uB,h,hp]
def aCj{L:ae}{k:Nat}{l:aa}(h:L[k]?=some l)(hp:l.aM=false):yy L T (k+1)=yy L T k:=by unfold yy;congr 1;funext p;simp[r9,List.any_append,aio h hp]
def aD4{L:ae}{k:Nat}{l:aa}(h:L[k]?=some l)(hp:l.aM=false):uw L T (k+1)=uw L T k:=by unfold uw;congr 1;funext p;simp[Nr,r9,Y4,aio h hp]
def aHx{L:ae}{k:Nat}{l:aa}(h:L[k]?=some l)(hp:l.aM=false):lB L (k+1)=lB L k:=by
 unfold lB;apply Ax;intro i H;by_cases e:i=k
 .subst e;simp[Br,h,hp]
 have:(i<k+1)↔(i<k):=J;simp[this]
def O7{L:ae}{k p:Nat}{l:aa}(h:L[k]?=some l)(hp:l.aM):uB L p k=(fH L l==p):=by simp[uB,h,hp]
def axk{L:ae}{k:Nat}{l:aa}(h:L[k]?=some l)(hp:l.aM):yy L T (k+1)=(yy L T k).set (fH L l) true:=by
 apply v_
 .simp[yy]
 intro i f H;rw[Gx];simp only[yy,CC,GQ,r9,List.any_append,QH,Sc,SJ,O7 h hp];split
 .rename_i e;simp[e]
 rename_i e;simp[e]
def aEN{L:ae}{k:Nat}{l:aa}(h:L[k]?=some l)(hp:l.aM)(f:(List.range k).any (uB L (fH L l))=false):uw L T (k+1)=(uw L T k).set (fH L l) k:=by
 apply v_
 .simp[uw]
 intro i y u;rw[Gx];simp only[uw,CC,GQ,Nr,r9,Y4];by_cases e:fH L l=i
 .have j:(List.range k).find? (uB L i)=none:=by
   rw[<-e,GU];intro x m g;rw[E5]at f;exact f x m g
  have H:uB L i k:=by rw[O7 h hp];simp[e]
  rw[j,aH e,Nf,H];rfl
 have H:uB L i k=false:=by rw[O7 h hp];simp[e]
 rw[aw e,Nf,H];simp
def ayC{L:ae}{k:Nat}{l:aa}(h:L[k]?=some l)(hp:l.aM):lB L (k+1)=(lB L k).set k (fH L l):=by
 apply v_
 .simp[lB]
 intro i f H;rw[Gx];simp only[lB,CC,GQ];by_cases e:k=i
 .subst e;simp[Br,h,hp]
 have:(i<k+1)↔(i<k):=J;simp only[this,aw e]
def acg{L:ae}{k:Nat}(H:k<I L)(h:ud L k=false):zB L=false:=by unfold zB;rw[US];exact⟨k,gI.2 H,by simp[h]⟩
def aC2{L:ae}(h:∀i,i<I L->ud L i):zB L:=by unfold zB;rw[jP];exactλi H=>h i (gI.1 H)
abbrev ID(id:Nat):Prop:=id=2496320128\/kO id=113
abbrev xm(F:Nat)(ls:ae)(c2 c3 c5 c4 ft:c6):eG:=[.p (.int .i64 (F:Int)),.p (c8 ls),c2,c3,c5,c4,ft]
abbrev hs(id g n:Nat):c6:=.hsl id g 1 0 n
abbrev tV(F:Nat)(ls:ae):Prop:=∀l∈ls,l.aM->0<=l.gate/\l.gate<=(F:Int)
def Na(F:Nat)(L:ae)(g:Nat)(c4:c6)(j:aB)(v:V)(f:aB):Prop:=
 v=fT (zB L)/\dG ID j f/\(zB L->∃g1 A m h,f 2496320128=(g,some (.var (xm F L (hs 7232128448 A (I L)) (hs 7233344128 h (iR L (F+1))) (hs 7232192448 m (I L)) c4 (hs 7232064448 g1 (F+1)))))/\
  f 7232064448=(g1,some (.arr 3 1 (cg (jh L F))))/\f 7232128448=(A,some (.arr 4 1 (eC (mg L))))/\f 7232192448=(m,some (.arr 3 1 (cg (lB L (I L)))))/\
  f 7233344128=(h,some (.arr 3 1 (cg (uw L (iR L (F+1)) (I L))))))
def aDa{al:cG}(O:al.ok 2496320128)(ok:∀id,kO id=113->al.ok id){pG aj:aB}{g1 g4 F:Nat}{L:ae}{c4:c6}(hl:I L<=1000000)(hF:F<=1000000)(hg:tV F L)
  (E:h 0=.one (.bh 2496320128 g 0)) (T:h 6=.one (hs 7232832384 g4 (F+1))) (h7:h 7=aC (iR L (F+1)))
  (z:aj 2496320128=(g,some (.var (xm F L (hs 7232128448 A (I L)) u (hs 7232192448 m (I L)) c4 (hs 7232064448 g1 (F+1))))))
  (B:aj 7232064448=(g1,some (.arr 3 1 (cg (jh L F))))) (bW:aj 7232128448=(A,some (.arr 4 1 (eC (mg L))))) (M:aj 7232192448=(m,some (.arr 3 1 (cg (lB L 0)))))
  (bF:aj 7232832384=(g4,some (.arr 3 1 (cg (Ky L F))))) (hk:dG ID pG aj):bP S al Xq (ns al [(2,none)] (Na F L g c4 pG)) h aj:=by
 have o1:=ok 7232064448 rfl;have o2:=ok 7232128448 rfl;have o3:=ok 7232192448 rfl;have o4:=ok 7232448192 rfl;have o5:=ok 7232832384 rfl;have Y:=ok 7233344128 rfl;have o7:=ok 7233408064 rfl;have o8:=ok 7233600192 rfl;have hT:=Wh L (F+1);have PX:iR L (F+1)*8<=140737488355328:=J;have iQ:iR L (F+1)<=140737488355328:=J;simp only[go_sem,Xq,E,h7,z,PX,iQ,O,o1,o2,o3,o4,o5,Y,o7,o8,af,au];refine c_ (λk h x=>h 0=.one (.bh 2496320128 g 0)/\h 6=.one (hs 7232832384 g4 (F+1))/\h 10=.one (hs 7233408064 ((aj 7233408064).1+1) (iR L (F+1)))/\h 114=.one (.p (c8 L))/\h 115=aC (I L)/\h 116=aC k/\
  x 2496320128=(g,some (.var (xm F L (hs 7232128448 A (I L)) (hs 7233344128 ((aj 7233344128).1+1) (iR L (F+1))) (hs 7232192448 m (I L)) c4 (hs 7232064448 g1 (F+1)))))/\
  x 7232064448=(g1,some (.arr 3 1 (cg (jh L F))))/\x 7232128448=(A,some (.arr 4 1 (eC (mg L))))/\x 7232192448=(m,some (.arr 3 1 (cg (lB L k))))/\
  x 7232832384=(g4,some (.arr 3 1 (cg (Ky L F))))/\x 7233344128=((aj 7233344128).1+1,some (.arr 3 1 (cg (uw L (iR L (F+1)) k))))/\x 7233408064=((aj 7233408064).1+1,some (.arr 4 1 (eC (yy L (iR L (F+1)) k))))/\
  (∀i,i<k->ud L i)/\dG ID pG x) 0 (I L) (cE _) ?_ ?_
 .simp only[go_sem,E,T,B,bW,M,bF,af,au,art,aHw,acp,apb];refine⟨rfl,rfl,λi X=>absurd X (mX i),?_⟩;repeat(first|exact hk|refine dG.dE ?_ (by first|exact Or.inl rfl|exact Or.inr rfl) _)
 rintro k h x hk ⟨E,T,dr,O6,Lq,G0,z,B,bW,M,bF,bA,bT,aA,Z⟩
 by_cases N:k<I L
 .obtain⟨l,f⟩:=aR N;have y:=fP f;have aO:((k:Int)<(I L:Int)):=J;have w1:=cP (n:=k) J;cases hp:(l.kind==1)with
  |false=>
   have j:l.aM=false:=hp;have oX:(l.kind !=1):=by simp[bne,hp]
   have lk:ud L k:=by simp[ud,f,j]
   simp only[go_sem,HQ,E,T,dr,O6,Lq,G0,z,B,bW,bF,M,bA,bT,y,pF,aa.ps,aO,hp,oX,w1,O,o1,o2,o3,o4,o5,Y,o7,o8,af,au];refine⟨N,?_,?_,?_,?_,?_⟩
   .rw[aHx f j]
   .rw[aD4 f j]
   .rw[aCj f j]
   .intro i y;rcases m_.1 y with X|rfl
    .exact aA i X
    exact lk
   repeat(first|exact Z|refine dG.dE ?_ (by first|exact Or.inl rfl|exact Or.inr rfl) _)
  |true=>
   have j:l.aM:=hp;have oX:(l.kind !=1)=false:=by simp[bne,hp]
   obtain⟨Cn,an⟩:=hg l (ch f) j;obtain⟨G,hG⟩:=qX Cn;have Lu:G<=F:=J;have IT:G<F+1:=J;have tY:=jZ (Tm (L:=L) Lu);have yF:=jZ (axX (L:=L) Lu);have pQ:l.gate.toNat=G:=J;cases r1:decide (l.ay<1)with
   |true=>have uV:l.ay<1:=lp r1;have ab:¬1<=l.ay:=J;have D:=acg N (show ud L k=false by simp[ud,f,j,ab]);simp only[go_sem,HQ,E,T,dr,O6,Lq,G0,z,B,bW,bF,M,bA,bT,y,pF,aa.ps,aO,hp,oX,w1,uV,O,o1,o2,o3,o4,o5,Y,o7,o8,af,au];refine⟨aI,?_⟩;unfold Na;refine⟨by rw[D],?_,λX=>by rw[D]at X;cases X⟩;repeat(first|exact Z|refine dG.dE ?_ (by first|exact Or.inl rfl|exact Or.inr rfl) _)
   |false=>
    have uV:¬l.ay<1:=gU r1;obtain⟨R,hR⟩:=qX (show 0<=l.ay by omega);have Q:¬((R:Int)<1):=J;cases r2:decide ((di L G:Int)<(R:Int))with
    |true=>
     have vK:(di L G:Int)<(R:Int):=lp r2;have ad:¬l.ay<=(di L l.gate.toNat:Int):=by rw[pQ];omega
     have D:=acg N (show ud L k=false by simp[ud,f,j,ad]);simp only[go_sem,HQ,E,T,dr,O6,Lq,G0,z,B,bW,bF,M,bA,bT,y,pF,aa.ps,aO,hp,oX,w1,hR,hG,Q,vK,tY,IT,O,o1,o2,o3,o4,o5,Y,o7,o8,af,au];refine⟨aI,?_⟩;unfold Na;refine⟨by rw[D],?_,λX=>by rw[D]at X;cases X⟩;repeat(first|exact Z|refine dG.dE ?_ (by first|exact Or.inl rfl|exact Or.inr rfl) _)
    |false=>
     have vK:¬(di L G:Int)<(R:Int):=gU r2;have ag:=Wh L G;have ac:=B2 (L:=L) (show G+1<=F+1 by omega);have DV:=u6 L G;have H:fH L l<iR L (F+1):=by unfold fH;rw[pQ];omega
     have bN:iR L G+R-1=fH L l:=by unfold fH;rw[pQ];omega
     have cN:di L G<=I L:=qk _ _;have w2:=vR (a:=iR L G) (b:=R) J;have w3:=C7 (a:=iR L G+R) J J;rw[bN]at w3;have Ji:=qG (avO (L:=L) (k:=k) H);cases hu:(List.range k).any (uB L (fH L l))with
     |true=>rw[hu]at Ji;have D:=acg N (show ud L k=false by simp[ud,f,j,hu]);simp only[go_sem,HQ,E,T,dr,O6,Lq,G0,z,B,bW,bF,M,bA,bT,y,pF,aa.ps,aO,hp,oX,w1,hR,hG,Q,vK,tY,yF,IT,w2,w3,Ji,H,O,o1,o2,o3,o4,o5,Y,o7,o8,af,au];refine⟨aI,aI,?_⟩;unfold Na;refine⟨by rw[D],?_,λX=>by rw[D]at X;cases X⟩;repeat(first|exact Z|refine dG.dE ?_ (by first|exact Or.inl rfl|exact Or.inr rfl) _)
     |false=>
      rw[hu]at Ji;have lk:ud L k:=by
       have e1:1<=l.ay:=J;have e2:l.ay<=(di L l.gate.toNat:Int):=by rw[pQ];omega
       simp[ud,f,e1,e2,hu]
      obtain⟨a0,zI⟩:=aR (show fH L l<I (uw L (iR L (F+1)) k) by rw[alF];exact H);obtain⟨p0,zQ⟩:=aR (show k<I (lB L k) by rw[aq6];exact N);have zI:=jZ zI;have zQ:=jZ zQ;have s1:=Lp (yy L (iR L (F+1)) k) (fH L l) true;rw[<-axk f j]at s1;have s2:=LC (uw L (iR L (F+1)) k) (fH L l) k;rw[<-aEN f j hu]at s2;have w5:=LC (lB L k) k (fH L l);rw[<-ayC f j]at w5;simp only[go_sem,HQ,E,T,dr,O6,Lq,G0,z,B,bW,bF,M,bA,bT,y,pF,aa.ps,aO,N,hp,oX,w1,hR,hG,Q,vK,tY,yF,IT,w2,w3,Ji,H,zI,zQ,s1,s2,w5,O,o1,o2,o3,o4,o5,Y,o7,o8,af,au];refine⟨aI,aI,aI,?_,?_⟩
      .intro i y;rcases m_.1 y with X|rfl
       .exact aA i X
       exact lk
      repeat(first|exact Z|refine dG.dE ?_ (by first|exact Or.inl rfl|exact Or.inr rfl) _)
 have:k=I L:=J;subst this;have hr:=aC2 aA;simp only[go_sem,HQ,alC,Lq,G0,dW,af,au];exact⟨by rw[hr],Z,λ_=>⟨g1,A,m,(aj 7233344128).1+1,z,B,bW,M,bA⟩⟩
def aAL{al:cG}(O:al.ok 2496320128)(ok:∀id,kO id=113->al.ok id){D aj:aB}{g1 F:Nat}{L:ae}{c4:c6}(hl:I L<=1000000)(hF:F<=1000000)(hg:tV F L)
  (H:h 0=.one (.bh 2496320128 g 0))
  (B:aj 2496320128=(g,some (.var (xm F L (hs 7232128448 A (I L)) u (hs 7232192448 m (I L)) c4 (hs 7232064448 g1 (F+1))))))
  (y:aj 7232064448=(g1,some (.arr 3 1 (cg (jh L F))))) (bW:aj 7232128448=(A,some (.arr 4 1 (eC (mg L))))) (z:aj 7232192448=(m,some (.arr 3 1 (cg (lB L 0)))))
  (R:dG ID D aj):bP S al acI (ns al [(2,none)] (Na F L g c4 D)) h aj:=by
 have o1:=ok 7232064448 rfl;have o2:=ok 7232128448 rfl;have o3:=ok 7232192448 rfl;have o4:=ok 7232448192 rfl;have X:=ok 7232832384 rfl;have N:=ok 7233344128 rfl;have Z:=ok 7233408064 rfl;have o8:=ok 7233600192 rfl;have PX:(F+1)*8<=140737488355328:=J;have wF:=cP (n:=F) J;simp only[go_sem,acI,H,B,wF,PX,O,o1,o2,o3,o4,X,N,Z,o8,af,au];refine c_ (λk h f=>h 0=.one (.bh 2496320128 g 0)/\h 6=.one (hs 7232832384 ((aj 7232832384).1+1) (F+1))/\h 7=aC (iR L k)/\h 88=.one (hs 7232064448 g1 (F+1))/\h 89=aC ((F+1:Nat):Int)/\h 90=aC k/\
  f 2496320128=(g,some (.var (xm F L (hs 7232128448 A (I L)) u (hs 7232192448 m (I L)) c4 (hs 7232064448 g1 (F+1)))))/\
  f 7232064448=(g1,some (.arr 3 1 (cg (jh L F))))/\f 7232128448=(A,some (.arr 4 1 (eC (mg L))))/\f 7232192448=(m,some (.arr 3 1 (cg (lB L 0))))/\
  f 7232832384=((aj 7232832384).1+1,some (.arr 3 1 (cg (xR L F k))))/\dG ID D f) 0 (F+1) (cE _) ?_ ?_
 .simp only[go_sem,H,B,y,bW,z,af,au,aye,acp];refine⟨rfl,rfl,rfl,?_⟩;repeat(first|exact R|refine dG.dE ?_ (by first|exact Or.inl rfl|exact Or.inr rfl) _)
 rintro k h f R ⟨H,h6,Y,E,j,x,B,y,bW,z,bF,T⟩
 by_cases Q:k<F+1
 .have aO:((k:Int)<((F+1:Nat):Int)):=J;have w1:=cP (n:=k) J;have hc:=jZ (Tm (L:=L) (show k<=F by omega));obtain⟨a0,M⟩:=aR (show k<I (xR L F k) by rw[azc];exact Q);have M:=jZ M;have s1:=LC (xR L F k) k (iR L k);rw[<-ax5]at s1;have hs:=u6 L k;have ab:=Wh L (k+1);have w2:=vR (a:=iR L k) (b:=di L k) J;rw[<-hs]at w2;simp only[go_sem,Wu,H,h6,Y,E,j,x,B,y,bW,z,bF,Q,aO,hc,M,s1,w1,w2,O,o1,o2,o3,o4,X,N,Z,o8,af,au];repeat(first|exact T|refine dG.dE ?_ (by first|exact Or.inl rfl|exact Or.inr rfl) _)
 have:k=F+1:=J;subst this;simp only[go_sem,Wu,j,x,dW,af,au];exact aDa O ok hl hF hg H h6 Y B y bW z (by rw[bF,avL]) T
def aE9{al:cG}(O:al.ok 2496320128)(ok:∀id,kO id=113->al.ok id){aj:aB}{F:Nat}{L:ae}{c5 c4 ft:c6}(hl:I L<=1000000)(hF:F<=1000000)(hg:tV F L)
  (B:aj 2496320128=(g,some (.var (xm F L y u c5 c4 ft)))):∃v A,je S 113 [.one (.bh 2496320128 g 0)] al aj v A/\Na F L g c4 aj v A:=by
 have o1:=ok 7232064448 rfl;have Y:=ok 7232128448 rfl;have o3:=ok 7232192448 rfl;have o4:=ok 7232448192 rfl;have T:=ok 7232832384 rfl;have z:=ok 7233344128 rfl;have X:=ok 7233408064 rfl;have Z:=ok 7233600192 rfl;refine nc azq (jn rfl) ?_;have PX:(F+1)*8<=140737488355328:=J;have Q:I L*8<=140737488355328:=J;have iv:I L<=140737488355328:=J;have wF:=cP (n:=F) J;simp only[go_sem,alv,B,wF,PX,Q,iv,O,o1,Y,o3,o4,T,z,X,Z,af,au];refine c_ (λk h A=>h 0=.one (.bh 2496320128 g 0)/\h 3=fT (c9 L k)/\h 48=.one (.p (c8 L))/\h 49=aC (I L)/\h 50=aC k/\
  A 2496320128=(g,some (.var (xm F L (hs 7232128448 ((aj 7232128448).1+1) (I L)) u (hs 7232192448 ((aj 7232192448).1+1) (I L)) c4 (hs 7232064448 ((aj 7232064448).1+1) (F+1)))))/\
  A 7232064448=((aj 7232064448).1+1,some (.arr 3 1 (cg (tQ L F k))))/\A 7232128448=((aj 7232128448).1+1,some (.arr 4 1 (eC (vk L k))))/\A 7232192448=((aj 7232192448).1+1,some (.arr 3 1 (cg (lB L 0))))/\
  dG ID aj A) 0 (I L) (cE _) ?_ ?_
 .simp only[go_sem,B,af,au,WV,ar7,az9,acp,apb];refine⟨rfl,rfl,rfl,rfl,?_⟩;repeat(first|exact(dG.refl _ _)|refine dG.dE ?_ (by first|exact Or.inl rfl|exact Or.inr rfl) _)
 rintro k h A hk ⟨D,h3,zD,m,H,B,E,bW,N,R⟩
 by_cases x:k<I L
 .obtain⟨l,f⟩:=aR x;have hi:=fP f;have aO:((k:Int)<(I L:Int)):=J;have w1:=cP (n:=k) J;cases hp:(l.kind==1)with
  |false=>
   have j:l.aM=false:=hp;simp only[go_sem,UF,D,h3,zD,m,H,B,E,bW,N,hi,pF,aa.ps,aO,hp,w1,O,o1,Y,o3,o4,T,z,X,Z,af,au];refine⟨x,?_,?_,?_,?_⟩
   .rw[NH f j]
   .rw[alr f j]
   .rw[axq f j]
   repeat(first|exact R|refine dG.dE ?_ (by first|exact Or.inl rfl|exact Or.inr rfl) _)
  |true=>have j:l.aM:=hp;obtain⟨Cn,ab⟩:=hg l (ch f) j;obtain⟨G,hG⟩:=qX Cn;have Lu:G<=F:=J;have IT:G<F+1:=J;have tY:=jZ (an3 (L:=L) (k:=k) Lu);have cN:di (L.take k) G<=k:=Au _ _ _;have w2:=cP (n:=di (L.take k) G) J;have s1:=LC (tQ L F k) G (di (L.take k) G+1);rw[<-alf f j hG]at s1;obtain⟨b0,M⟩:=aR (show k<I (vk L k) by rw[arp];exact x);have M:=qG M;have s2:=Lp (vk L k) k (c9 L k);rw[<-aFY f j]at s2;have hd:=PI f j;simp only[go_sem,UF,D,h3,zD,m,H,B,E,bW,N,hi,pF,aa.ps,aO,x,hp,w1,hG,tY,IT,w2,s1,M,s2,hd,O,o1,Y,o3,o4,T,z,X,Z,af,au];refine⟨aI,?_⟩;repeat(first|exact R|refine dG.dE ?_ (by first|exact Or.inl rfl|exact Or.inr rfl) _)
 have:k=I L:=J;subst this;simp only[go_sem,UF,m,H,dW,af,au];exact aAL O ok hl hF hg D B (by rw[E,abZ]) (by rw[bW,auV]) N R
def sI(L:ae)(id:Int)(o:Bool)(j:Nat):Bool:=match L[j]? with|some m=>m.aF&&(m.id==id&&m.over==o)|none=>false
def i_(L:ae)(k:Nat)(id:Int)(o:Bool):eh:=(List.range k).find? (sI L id o)
def BT:eh->Int
 |some j=>j
 |none=> -1
def gY(L:ae):Nat->cV
 |0=>[]
 |k+1=>match L[k]? with
  |some l=>if l.aF&& !(gY L k).contains l.id then gY L k++[l.id]else gY L k
  |none=>gY L k
def sq(L:ae)(k:Nat)(id:Int):b_:=[.int .i64 (BT (i_ L k id false)),.int .i64 (BT (i_ L k id true))]
def qJ(L:ae)(k:Nat):w_:=(gY L k).map λid=>(PV.int .i64 id,sq L k id)
def DG(L:ae)(j:Nat):Int:=((L[j]?).map aa.sign).getD 0
def oK(L:ae)(N:Nat)(k:Nat):Bool:=match L[k]? with
 |some l=> !l.aF||((decide (1<=l.id)&&decide (l.id<=(N:Int)))&&((i_ L k l.id l.over).isNone&&(match i_ L k l.id (!l.over)with|some j=>DG L j==l.sign|none=>true)))
 |none=>true
def nX(L:ae):Bool:=(ai aa.aF L%2==0)&&(List.range (I L)).all (oK L (ai aa.aF L/2))&&(I (gY L (I L))==ai aa.aF L/2)
def Lk{L:ae}{k:Nat}{l:aa}(h:L[k]?=some l)(H:l.aF)(id:Int)(o:Bool):sI L id o k=(l.id==id&&l.over==o):=by simp[sI,h,H]
def ahm{L:ae}{k:Nat}{l:aa}(h:L[k]?=some l)(H:l.aF=false)(id:Int)(o:Bool):sI L id o k=false:=by simp[sI,h,H]
def VE(L:ae)(k:Nat)(id:Int)(o:Bool):i_ L (k+1) id o=(i_ L k id o).or (if sI L id o k then some k else none):=by simp only[i_,r9,Y4,Nf,List.find?_nil];cases sI L id o k<;>rfl
def GX{L:ae}{k:Nat}{id:Int}{o:Bool}(h:i_ L k id o=some j):j<k/\sI L id o j:=
 ⟨gI.1 (Eo h),IK h⟩
def BS{L:ae}{id:Int}{o:Bool}(h:sI L id o j):∃m,L[j]?=some m/\m.aF/\m.id=id/\m.over=o:=by
 unfold sI at h;split at h
 .rename_i m H;simp only[dj,dI]at h;exact⟨m,H,h.1,h.2.1,h.2.2⟩
 cases h
def Nd{L:ae}{k:Nat}{id:Int}{o:Bool}(h:i_ L k id o=none)(H:j<k):sI L id o j=false:=by
 have:=GU.1 h j (gI.2 H)
 simpa using this
def air{L:ae}{k:Nat}{l:aa}(h:L[k]?=some l)(H:l.aF=false):gY L (k+1)=gY L k:=by simp[gY,h,H]
def agS{L:ae}{k:Nat}{l:aa}(h:L[k]?=some l)(f:l.aF)(H:l.id∉gY L k):gY L (k+1)=gY L k++[l.id]:=by simp[gY,h,f,H]
def aoe{L:ae}{k:Nat}{l:aa}(h:L[k]?=some l)(H:l.id∈gY L k):gY L (k+1)=gY L k:=by simp[gY,h,H]
def aAH{L:ae}{k:Nat}{l:aa}(h:L[k]?=some l)(H:l.aF=false):qJ L (k+1)=qJ L k:=by unfold qJ sq;rw[air h H];simp[VE,ahm h H]
def asB{L:ae}{id:Int}:∀(k:Nat),k<=I L->(id∈gY L k↔ ∃j o,j<k/\sI L id o j):=by
 intro k
 induction k with
 |zero=>intro _;simp[gY]
 |succ k g=>
  intro x;obtain⟨l,hl⟩:=aR (show k<I L by omega);have g:=g J;have O:(∃j o,j<k/\sI L id o j)->∃j o,j<k+1/\sI L id o j:=λ⟨j,o,m,H⟩=>⟨j,o,J,H⟩;cases f:l.aF with
  |false=>
   rw[air hl f,g];refine⟨O,?_⟩;rintro⟨j,o,m,H⟩
   rcases m_.1 m with h|rfl
   .exact⟨j,o,h,H⟩
   rw[ahm hl f]at H;cases H
  |true=>
   have key:id∈gY L (k+1)↔(id∈gY L k\/id=l.id):=by
    by_cases u:l.id∈gY L k
    .rw[aoe hl u];exact⟨Or.inl,λh=>h.elim fR (λe=>e▸u)⟩
    rw[agS hl f u];simp
   rw[key,g];constructor
   .rintro (h|rfl)
    .exact O h
    exact⟨k,l.over,J,by rw[Lk hl f];simp⟩
   rintro⟨j,o,m,H⟩
   rcases m_.1 m with h|rfl
   .exact Or.inl ⟨j,o,h,H⟩
   rw[Lk hl f]at H;simp only[dj,dI]at H;exact Or.inr H.1.symm
where fR {p:Prop} (h:p):p:=h
def GY{L:ae}{id:Int}{k:Nat}(h:k<=I L):id∈gY L k↔ ∃j o,j<k/\sI L id o j:=asB k h
def Uk(L:ae):∀k,(gY L k).Nodup:=by
 intro k
 induction k with
 |zero=>simp[gY]
 |succ k f=>
  unfold gY;split
  .split
   .rename_i h;simp only[dj,mP,O_,decide_eq_false_iff_not]at h;rw[BI];refine⟨f,aQ,?_⟩;intro a g b H;simp only[kV]at H;subst H;rintro rfl
    exact h.2 g
   exact f
  exact f
def aui{L:ae}{k:Nat}(H:k<=I L){id:Int}(h:id∉gY L k)(o:Bool):i_ L k id o=none:=by
 cases f:i_ L k id o with
 |none=>rfl
 |some j=>obtain⟨m,g⟩:=GX f;exact absurd ((GY H).2 ⟨j,o,m,g⟩) h
def aps{L:ae}{k:Nat}(z:k<=I L){id:Int}(h:id∈gY L k)(o:Bool)(x:i_ L k id o=none):∃j m,i_ L k id (!o)=some j/\L[j]?=some m/\j<k:=by
 obtain⟨j,O,g,H⟩:=(GY z).1 h;by_cases e:O=o
 .subst e;rw[Nd x g]at H;cases H
 have e:O= !o:=by cases o<;>cases O<;>simp_all
 subst e;cases f:i_ L k id (!o)with
 |none=>rw[Nd f g]at H;cases H
 |some i=>obtain⟨u,A⟩:=GX f;obtain⟨m,y,_⟩:=BS A;exact⟨i,m,rfl,y,u⟩
def afO{L:ae}{k:Nat}{l:aa}(h:L[k]?=some l)(f:l.aF){id:Int}(H:¬l.id=id)(o:Bool):i_ L (k+1) id o=i_ L k id o:=by rw[VE,Lk h f];simp[H]
def WA{L:ae}{k:Nat}{l:aa}(h:L[k]?=some l)(f:l.aF)(H:i_ L k l.id l.over=none):i_ L (k+1) l.id l.over=some k:=by rw[VE,Lk h f,H];simp
def aeQ{L:ae}{k:Nat}{l:aa}(h:L[k]?=some l)(H:l.aF):i_ L (k+1) l.id (!l.over)=i_ L k l.id (!l.over):=by rw[VE,Lk h H];cases l.over<;>simp
def ags{L:ae}{k:Nat}{l:aa}(h:L[k]?=some l)(f:l.aF){id:Int}(H:¬l.id=id):sq L (k+1) id=sq L k id:=by unfold sq;rw[afO h f H,afO h f H]
def atb{L:ae}{k:Nat}{l:aa}(h:L[k]?=some l)(f:l.aF)(g:l.id∉gY L k):qJ L (k+1)=qJ L k++[(.int .i64 l.id,sq L (k+1) l.id)]:=by unfold qJ;rw[agS h f g,lU];congr 1;apply Ax;intro id H;rw[ags h f (by rintro rfl;exact g H)]
def asZ{L:ae}{k:Nat}{l:aa}(h:L[k]?=some l)(f:l.aF)(g:l.id∈gY L k):qJ L (k+1)=(qJ L k).set ((gY L k).idxOf l.id) (.int .i64 l.id,sq L (k+1) l.id):=by
 unfold qJ;rw[aoe h g];apply v_
 .simp
 intro i H j;rw[Gx];simp only[cH]at H;by_cases e:(gY L k).idxOf l.id=i
 .subst e;simp only[CC,aH,UH]
 rw[aw e];simp only[CC];rw[ags h f];intro e2;apply e;rw[e2];exact(Uk L k).idxOf_getElem i H
def am4(L:ae)(k:Nat)(q:Int):sZ (.int .i64 q) (qJ L k) 0=some (if q∈gY L k then some ((gY L k).idxOf q,sq L k q)else none):=by unfold qJ;rw[aEe];simp
def J7{L:ae}{k:Nat}(H:k<I L)(h:oK L (ai aa.aF L/2) k=false):nX L=false:=by have:(List.range (I L)).all (oK L (ai aa.aF L/2))=false:=US.2 ⟨k,gI.2 H,by simp[h]⟩;simp[nX,this]
def aaI{L:ae}(H:ai aa.aF L%2=0)(h:∀i,i<I L->oK L (ai aa.aF L/2) i):nX L=(I (gY L (I L))==ai aa.aF L/2):=by have:(List.range (I L)).all (oK L (ai aa.aF L/2)):=jP.2 λi f=>h i (gI.1 f);simp[nX,this,H]
abbrev afq(id:Nat):Prop:=id=2496320128\/kO id=114
def HN(F:Nat)(L:ae)(g:Nat)(y u c5 ft:c6)(f:aB)(v:V)(A:aB):Prop:=v=fT (nX L)/\dG afq f A/\(nX L->∃g1,A 2496320128=(g,some (.var (xm F L y u c5 (.mS 7296256064 g1) ft)))/\A 7296256064=(g1,some (.map true (qJ L (I L)))))
def anA(j:Nat):decide ((0:Int)<=(j:Int))=true:=xi J
def agJ:IntKind.i64.wrap 0=0:=U
def WS:IntKind.i64.wrap 1=1:=U
def I3:((-1:Int)≥0)=False:=aQ
def aHA:((0:Int)<= -1)=False:=aQ
def avp{al:cG}(O:al.ok 2496320128)(ok:∀id,kO id=114->al.ok id){aj:aB}{F:Nat}{L:ae}{c5 c4 ft:c6}(hl:I L<=1000000)
  (B:aj 2496320128=(g,some (.var (xm F L y u c5 c4 ft)))):∃v ao,je S 114 [.one (.bh 2496320128 g 0)] al aj v ao/\HN F L g y u c5 ft aj v ao:=by
 have R:=ok 7296256064 rfl;have Q:=ok 7296448192 rfl;have N:=ok 7296704640 rfl;refine nc azW (jn rfl) ?_;have pc:=Z9 F L hl;have cN:ai aa.aF L<=I L:=qk _ _;cases he:(((ai aa.aF L%2:Nat):Int)!=0)with
 |true=>
  have D:nX L=false:=by
   have:(ai aa.aF L%2==0)=false:=by simp at he |-;omega
   simp[nX,this]
  simp only[go_sem,abV,B,Er,PT pc,kz,fF,he,O,R,Q,N,af,au];exact⟨by rw[D],dG.refl _ _,λA=>by rw[D]at A;cases A⟩
 |false=>
  have ac:ai aa.aF L%2=0:=by simp at he;omega
  simp only[go_sem,abV,B,Er,PT pc,kz,fF,he,O,R,Q,N,af,au];refine c_ (λk h ao=>h 0=.one (.bh 2496320128 g 0)/\h 3=aC (ai aa.aF L)/\h 25=.one (.p (c8 L))/\h 26=aC (I L)/\h 27=aC k/\
   ao 2496320128=(g,some (.var (xm F L y u c5 (.mS 7296256064 ((aj 7296256064).1+1)) ft)))/\ao 7296256064=((aj 7296256064).1+1,some (.map true (qJ L k)))/\
   (∀i,i<k->oK L (ai aa.aF L/2) i)/\dG afq aj ao) 0 (I L) (cE _) ?_ ?_
  .simp only[go_sem,B,af,au];refine⟨rfl,rfl,λi A=>absurd A (mX i),?_⟩;repeat(first|exact(dG.refl _ _)|refine dG.dE ?_ (by first|exact Or.inl rfl|exact Or.inr rfl) _)
  rintro k h ao hk ⟨h0,h3,pO,AU,AW,B,bM,aA,Y⟩
  have wq:IntKind.i64.wrap ((ai aa.aF L/2:Nat):Int)=((ai aa.aF L/2:Nat):Int):=wrap_small J;by_cases X:k<I L
  .obtain⟨l,M⟩:=aR X;have f:=fP M;have aO:((k:Int)<(I L:Int)):=J;have w1:=cP (n:=k) J;cases hc:(l.kind==2)with
   |false=>
    have E:l.aF=false:=hc;have hp:(l.kind !=2):=by simp[bne,hc]
    have lk:oK L (ai aa.aF L/2) k:=by simp[oK,M,E]
    simp only[go_sem,xx,h0,h3,pO,AU,AW,B,bM,f,pF,aa.ps,aO,hp,w1,O,R,Q,N,af,au];refine⟨X,?_,?_,?_⟩
    .rw[aAH M E]
    .intro i f;rcases m_.1 f with A|rfl
     .exact aA i A
     exact lk
    repeat(first|exact Y|refine dG.dE ?_ (by first|exact Or.inl rfl|exact Or.inr rfl) _)
   |true=>
    have E:l.aF:=hc;have hp:(l.kind !=2)=false:=by simp[bne,hc]
    cases r1:decide (l.id<1)with
    |true=>have uV:l.id<1:=lp r1;have ad:¬1<=l.id:=J;have D:=J7 X (show oK L (ai aa.aF L/2) k=false by simp[oK,M,E,ad]);simp only[go_sem,xx,h0,h3,pO,AU,AW,B,bM,f,pF,aa.ps,aO,hp,w1,uV,O,R,Q,N,af,au];unfold HN;refine⟨by rw[D],?_,λA=>by rw[D]at A;cases A⟩;repeat(first|exact Y|refine dG.dE ?_ (by first|exact Or.inl rfl|exact Or.inr rfl) _)
    |false=>
     have uV:¬l.id<1:=gU r1;have ag:1<=l.id:=J;cases r2:decide (((ai aa.aF L/2:Nat):Int)<l.id)with
     |true=>have vK:((ai aa.aF L/2:Nat):Int)<l.id:=lp r2;have ar:¬l.id<=((ai aa.aF L/2:Nat):Int):=J;have D:=J7 X (show oK L (ai aa.aF L/2) k=false by simp only[oK,M,E,ar];simp);simp only[go_sem,xx,h0,h3,pO,AU,AW,B,bM,f,pF,aa.ps,aO,hp,w1,uV,vK,ik,fF,wq,O,R,Q,N,af,au];unfold HN;refine⟨by rw[D],?_,λA=>by rw[D]at A;cases A⟩;repeat(first|exact Y|refine dG.dE ?_ (by first|exact Or.inl rfl|exact Or.inr rfl) _)
     |false=>
      have vK:¬((ai aa.aF L/2:Nat):Int)<l.id:=gU r2;have ap:l.id<=((ai aa.aF L/2:Nat):Int):=J;have z:=am4 L k l.id;have qR:oK L (ai aa.aF L/2) k=((i_ L k l.id l.over).isNone&&(match i_ L k l.id (!l.over)with|some j=>DG L j==l.sign|none=>true)):=by simp only[oK,M,E,ag,ap,decide_true];rfl
      by_cases hm:l.id∈gY L k
      .rw[aH hm]at z;obtain⟨e0,av⟩:=aR (show(gY L k).idxOf l.id<I (qJ L k) by simp[qJ];exact List.idxOf_lt_length_of_mem hm);have D0:=asZ M E hm;have Ps:sq L k l.id=[.int .i64 (BT (i_ L k l.id false)),.int .i64 (BT (i_ L k l.id true))]:=rfl;rw[Ps]at z;cases H:l.over with
       |true=>
        cases x:i_ L k l.id true with
        |some j=>have D:=J7 X (show oK L (ai aa.aF L/2) k=false by rw[qR,H,x];rfl);rw[x]at z;simp only[BT]at z;simp only[go_sem,xx,h0,h3,pO,AU,AW,B,bM,f,pF,aa.ps,aO,hp,w1,uV,vK,ik,fF,wq,z,H,anA,agJ,WS,ni,mW,j4,AT,zd,HX,Int.reduceNeg,Int.reduceSub,O,R,Q,N,af,au];refine⟨aI,aI,?_⟩;unfold HN;refine⟨by rw[D],?_,λA=>by rw[D]at A;cases A⟩;repeat(first|exact Y|refine dG.dE ?_ (by first|exact Or.inl rfl|exact Or.inr rfl) _)
        |none=>
         obtain⟨j,m,T,I8,an⟩:=aps hk hm true x;have T:i_ L k l.id false=some j:=T;have FQ:=fP I8;have Mb:DG L j=m.sign:=by simp[DG,I8]
         rw[x,T]at z;simp only[BT]at z;cases hs:(m.sign==l.sign)with
         |false=>
          have gV:(m.sign !=l.sign):=by simp[bne,hs]
          have D:=J7 X (show oK L (ai aa.aF L/2) k=false by rw[qR,H,x];simp only[zl,T,Mb,hs];rfl);simp only[go_sem,xx,h0,h3,pO,AU,AW,B,bM,f,pF,aa.ps,aO,hp,w1,uV,vK,ik,fF,wq,z,H,anA,I3,aHA,FQ,gV,agJ,WS,ni,mW,j4,AT,zd,HX,Int.reduceNeg,Int.reduceSub,O,R,Q,N,af,au];refine⟨aI,aI,?_⟩;unfold HN;refine⟨by rw[D],?_,λA=>by rw[D]at A;cases A⟩;repeat(first|exact Y|refine dG.dE ?_ (by first|exact Or.inl rfl|exact Or.inr rfl) _)
         |true=>
          have gV:(m.sign !=l.sign)=false:=by simp[bne,hs]
          have lk:oK L (ai aa.aF L/2) k:=by rw[qR,H,x];simp only[zl,T,Mb,hs];rfl
          have uf:=WA M E (show i_ L k l.id l.over=none by rw[H];exact x);have Z:=aeQ M E;rw[H]at uf Z;rw[show i_ L k l.id (!true)=some j from T]at Z;have ab:sq L (k+1) l.id=[.int .i64 (j:Int),.int .i64 (k:Int)]:=by simp only[sq];rw[uf,show i_ L (k+1) l.id false=some j from Z];rfl
          rw[ab]at D0;simp only[go_sem,xx,h0,h3,pO,AU,AW,B,bM,f,pF,aa.ps,aO,hp,w1,uV,vK,ik,fF,wq,z,H,anA,I3,aHA,FQ,gV,agJ,WS,ni,mW,j4,AT,zd,HX,Int.reduceNeg,Int.reduceSub,O,R,Q,N,af,au];refine⟨aI,aI,aI,?_⟩;refine⟨X,?_,?_,?_⟩
          .rw[D0]
          .intro i f;rcases m_.1 f with A|rfl
           .exact aA i A
           exact lk
          repeat(first|exact Y|refine dG.dE ?_ (by first|exact Or.inl rfl|exact Or.inr rfl) _)
       |false=>
        cases x:i_ L k l.id false with
        |some j=>have D:=J7 X (show oK L (ai aa.aF L/2) k=false by rw[qR,H,x];rfl);rw[x]at z;simp only[BT]at z;simp only[go_sem,xx,h0,h3,pO,AU,AW,B,bM,f,pF,aa.ps,aO,hp,w1,uV,vK,ik,fF,wq,z,H,anA,agJ,WS,ni,mW,j4,AT,zd,HX,Int.reduceNeg,Int.reduceSub,O,R,Q,N,af,au];refine⟨aI,aI,?_⟩;unfold HN;refine⟨by rw[D],?_,λA=>by rw[D]at A;cases A⟩;repeat(first|exact Y|refine dG.dE ?_ (by first|exact Or.inl rfl|exact Or.inr rfl) _)
        |none=>
         obtain⟨j,m,T,I8,an⟩:=aps hk hm false x;have T:i_ L k l.id true=some j:=T;have FQ:=fP I8;have Mb:DG L j=m.sign:=by simp[DG,I8]
         rw[x,T]at z;simp only[BT]at z;cases hs:(m.sign==l.sign)with
         |false=>
          have gV:(m.sign !=l.sign):=by simp[bne,hs]
          have D:=J7 X (show oK L (ai aa.aF L/2) k=false by rw[qR,H,x];simp only[GD,T,Mb,hs];rfl);simp only[go_sem,xx,h0,h3,pO,AU,AW,B,bM,f,pF,aa.ps,aO,hp,w1,uV,vK,ik,fF,wq,z,H,anA,I3,aHA,FQ,gV,agJ,WS,ni,mW,j4,AT,zd,HX,Int.reduceNeg,Int.reduceSub,O,R,Q,N,af,au];refine⟨aI,aI,?_⟩;unfold HN;refine⟨by rw[D],?_,λA=>by rw[D]at A;cases A⟩;repeat(first|exact Y|refine dG.dE ?_ (by first|exact Or.inl rfl|exact Or.inr rfl) _)
         |true=>
          have gV:(m.sign !=l.sign)=false:=by simp[bne,hs]
          have lk:oK L (ai aa.aF L/2) k:=by rw[qR,H,x];simp only[GD,T,Mb,hs];rfl
          have uf:=WA M E (show i_ L k l.id l.over=none by rw[H];exact x);have Z:=aeQ M E;rw[H]at uf Z;rw[show i_ L k l.id (!false)=some j from T]at Z;have ab:sq L (k+1) l.id=[.int .i64 (k:Int),.int .i64 (j:Int)]:=by simp only[sq];rw[uf,show i_ L (k+1) l.id true=some j from Z];rfl
          rw[ab]at D0;simp only[go_sem,xx,h0,h3,pO,AU,AW,B,bM,f,pF,aa.ps,aO,hp,w1,uV,vK,ik,fF,wq,z,H,anA,I3,aHA,FQ,gV,agJ,WS,ni,mW,j4,AT,zd,HX,Int.reduceNeg,Int.reduceSub,O,R,Q,N,af,au];refine⟨aI,aI,aI,?_⟩;refine⟨X,?_,?_,?_⟩
          .rw[D0]
          .intro i f;rcases m_.1 f with A|rfl
           .exact aA i A
           exact lk
          repeat(first|exact Y|refine dG.dE ?_ (by first|exact Or.inl rfl|exact Or.inr rfl) _)
      rw[aw hm]at z;have x:=aui hk hm;have qt:=atb M E hm;have lk:oK L (ai aa.aF L/2) k:=by rw[qR,x,x];rfl
      have uf:=WA M E (x _);have Z:=aeQ M E;rw[x]at Z;cases H:l.over with
      |true=>
       rw[H]at uf Z;have Ps:sq L (k+1) l.id=[.int .i64 (-1),.int .i64 (k:Int)]:=by simp only[sq];rw[uf,show i_ L (k+1) l.id false=none from Z];rfl
       rw[Ps]at qt;simp only[go_sem,xx,h0,h3,pO,AU,AW,B,bM,f,pF,aa.ps,aO,hp,w1,uV,vK,ik,fF,wq,z,H,I3,aHA,agJ,WS,ni,mW,j4,AT,zd,HX,Int.reduceNeg,Int.reduceSub,O,R,Q,N,af,au];refine⟨aI,aI,aI,?_⟩;refine⟨X,?_,?_,?_⟩
       .rw[qt]
       .intro i f;rcases m_.1 f with A|rfl
        .exact aA i A
        exact lk
       repeat(first|exact Y|refine dG.dE ?_ (by first|exact Or.inl rfl|exact Or.inr rfl) _)
      |false=>
       rw[H]at uf Z;have Ps:sq L (k+1) l.id=[.int .i64 (k:Int),.int .i64 (-1)]:=by simp only[sq];rw[uf,show i_ L (k+1) l.id true=none from Z];rfl
       rw[Ps]at qt;simp only[go_sem,xx,h0,h3,pO,AU,AW,B,bM,f,pF,aa.ps,aO,hp,w1,uV,vK,ik,fF,wq,z,H,I3,aHA,agJ,WS,ni,mW,j4,AT,zd,HX,Int.reduceNeg,Int.reduceSub,O,R,Q,N,af,au];refine⟨aI,aI,aI,?_⟩;refine⟨X,?_,?_,?_⟩
       .rw[qt]
       .intro i f;rcases m_.1 f with A|rfl
        .exact aA i A
        exact lk
       repeat(first|exact Y|refine dG.dE ?_ (by first|exact Or.inl rfl|exact Or.inr rfl) _)
  have:k=I L:=J;subst this;have hr:=aaI ac aA;have iB:I (qJ L (I L))=I (gY L (I L)):=by simp[qJ]
  have hb:(((I (gY L (I L)):Nat):Int)==((ai aa.aF L/2:Nat):Int))=(I (gY L (I L))==ai aa.aF L/2):=by
   cases A:(I (gY L (I L))==ai aa.aF L/2)with
   |true=>simp at A |-;omega
   |false=>simp at A |-;omega
  simp only[go_sem,xx,ait,h0,h3,AU,AW,B,bM,dW,agJ,WS,ni,mW,j4,AT,zd,HX,Int.reduceNeg,Int.reduceSub,iB,ik,fF,wq,hb,O,R,Q,N,af,au];exact⟨by rw[hr],Y,λ_=>⟨_,B,bM⟩⟩
def GP{p:aa->Bool}{L:ae}{i:Nat}{l:aa}(h:L[i]?=some l)(hp:p l):ai p L=1↔ ∀j m,L[j]?=some m->p m->j=i:=by
 obtain⟨u,e⟩:=cD.1 h;have hs:L=L.take i++l::L.drop (i+1):=by rw[<-e,sQ];simp
 have y:ai p L=ai p (L.take i)+(ai p (L.drop (i+1))+1):=by
  conv=>lhs;rw[hs]
  simp[ai,vH,vh,hp]
 constructor
 .intro x j m H f;have Z:ai p (L.take i)=0:=J;have z:ai p (L.drop (i+1))=0:=J;have Z:=Hi.1 Z;have z:=Hi.1 z;rcases Kw j i with A|A|A
  .have:m∈L.take i:=ch (i:=j) (by rw[nN,aH A,H]);exact absurd f (Z m this)
  .exact A
  have:m∈L.drop (i+1):=ch (i:=j-(i+1)) (by rw[yt,show i+1+(j-(i+1))=j by omega,H]);exact absurd f (z m this)
 intro g;have Z:ai p (L.take i)=0:=by
  refine Hi.2 λm f Q=>?_;obtain⟨j,H⟩:=jL f;have A:j<i:=by have:=(cD.1 H).1;rw[iM]at this;omega
  rw[nN,aH A]at H;have:=g j m H Q;omega
 have z:ai p (L.drop (i+1))=0:=by refine Hi.2 λm f Q=>?_;obtain⟨j,H⟩:=jL f;rw[yt]at H;have:=g _ m H Q;omega
 omega
def atS{p:aa->Bool}{L:ae}(h:∀(i j:Nat) (l m:aa),L[i]?=some l->L[j]?=some m->p l->p m->i=j):ai p L<=1:=by
 by_cases u:ai p L=0
 .omega
 have:0<L.countP p:=Nat.pos_of_ne_zero u;obtain⟨l,hl,hp⟩:=xk.1 this;obtain⟨i,H⟩:=jL hl;have:=(GP H hp).2 λj m g f=>h j i m l g H f hp;omega
structure vf (F:Nat) (ls:ae) (l:aa):Prop where
 g0:0<=l.gate
 g1:l.gate<=(F:Int)
 r0:1<=l.ay
 r1:l.ay<=(di ls l.gate.toNat:Int)
def Fj{L:ae}{l m:aa}(hl:vf F L l)(f:vf F L m):fH L l=fH L m↔l.gate=m.gate/\l.ay=m.ay:=by
 obtain⟨z,A,D,j⟩:=hl;obtain⟨x,M,u,B⟩:=f;unfold fH;constructor
 .intro h;have sl:=u6 L l.gate.toNat;have y:=u6 L m.gate.toNat;rcases Kw l.gate.toNat m.gate.toNat with c|c|c
  .have:=B2 (L:=L) (show l.gate.toNat+1<=m.gate.toNat by omega);omega
  .rw[c]at h;omega
  have:=B2 (L:=L) (show m.gate.toNat+1<=l.gate.toNat by omega);omega
 rintro⟨g,H⟩;rw[g,H]
def age{L:ae}{l m:aa}(hl:vf F L l)(h:vf F L m):Fi l m↔fH L l<fH L m:=by
 obtain⟨g,j,A,f⟩:=hl;obtain⟨y,M,u,x⟩:=h;unfold fH Fi;simp only[oG,dj,kB,dI];have sl:=u6 L l.gate.toNat;have z:=u6 L m.gate.toNat;rcases Kw l.gate.toNat m.gate.toNat with c|c|c
 .have:=B2 (L:=L) (show l.gate.toNat+1<=m.gate.toNat by omega);omega
 .rw[c];omega
 have:=B2 (L:=L) (show m.gate.toNat+1<=l.gate.toNat by omega);omega
def abj{L:ae}{l:aa}(hl:vf F L l):fH L l<iR L (F+1):=by obtain⟨g,h,j,f⟩:=hl;unfold fH;have sl:=u6 L l.gate.toNat;have:=B2 (L:=L) (show l.gate.toNat+1<=F+1 by omega);omega
def V4{L:ae}{i:Nat}{l:aa}(h:L[i]?=some l)(hp:l.aM):ud L i↔1<=l.ay/\l.ay<=(di L l.gate.toNat:Int)/\ ∀j m,j<i->L[j]?=some m->m.aM->fH L m≠fH L l:=by
 simp only[ud,h,hp,zl,DJ,dj,kB,mP,E5,gI];constructor
 .rintro ⟨⟨u,g⟩,x⟩
  refine⟨u,g,λj m f H Q e=>?_⟩;have:=x j f;rw[O7 H Q]at this;simp[e]at this
 rintro⟨u,g,x⟩
 refine⟨⟨u,g⟩,λj f=>?_⟩;unfold uB;split
 .rename_i m H;cases Q:m.aM with
  |false=>simp
  |true=>simpa using x j m f H Q
 simp
def PS{L:ae}(f:tV F L):zB L↔(∀l∈L,l.aM->vf F L l)/\ ∀(i j:Nat) (l m:aa),L[i]?=some l->L[j]?=some m->l.aM->m.aM->fH L l=fH L m->i=j:=by
 unfold zB;rw[jP];constructor
 .intro h;refine⟨λl hl hp=>?_,λi j l m H g B Q e=>?_⟩
  .obtain⟨i,H⟩:=jL hl;have:=(V4 H hp).1 (h i (gI.2 (cD.1 H).1));exact⟨(f l hl hp).1,(f l hl hp).2,this.1,this.2.1⟩
  have x:=(V4 H B).1 (h i (gI.2 (cD.1 H).1));have z:=(V4 g Q).1 (h j (gI.2 (cD.1 g).1));rcases Kw i j with c|c|c
  .exact absurd e (z.2.2 i l c H B)
  .exact c
  exact absurd e.symm (x.2.2 j m c g Q)
 rintro⟨A,u⟩ i H
 obtain⟨l,hl⟩:=aR (gI.1 H);cases hp:l.aM with
 |false=>simp[ud,hl,hp]
 |true=>have f:=A l (ch hl) hp;refine(V4 hl hp).2 ⟨f.r0,f.r1,λj m g y Q e=>?_⟩;have:=u j i m l y hl Q hp e;omega
def Rc(g:Int)(h:0<=g)(l:aa):qA g l=pP g.toNat l:=by unfold qA pP;rw[aeg h]
def sU{l:aa}(hp:l.aM):eO f l=false↔(((0<=l.gate/\l.gate<=f)/\l.id=0)/\l.sign=0)/\l.over=false:=by unfold aa.aM at hp;simp only[eO,hp,if_true,HG,decide_eq_false_iff_not,bne_eq_false_iff_eq,Int.not_lt]
def Kx{L:ae}{l:aa}(hp:l.aM):wW f L l↔eO f l=false/\1<=l.ay/\l.ay<=(ai (qA l.gate) L:Int)/\ai (ko l) L=1:=by
 rw[sU hp];unfold wW;simp only[mP,HG,decide_eq_false_iff_not,bne_eq_false_iff_eq];constructor
 .rintro ⟨⟨⟨⟨⟨⟨⟨a,b⟩,c⟩,d⟩,e⟩,g⟩,h⟩,i⟩
  exact⟨⟨⟨⟨⟨J,J⟩,a⟩,b⟩,c⟩,J,J,J⟩
 rintro⟨⟨⟨⟨⟨d,e⟩,a⟩,b⟩,c⟩,g,h,i⟩
 exact⟨⟨⟨⟨⟨⟨⟨a,b⟩,c⟩,J⟩,J⟩,J⟩,J⟩,J⟩
def UY{l m:aa}(hp:l.aM):ko l m↔m.aM=true/\m.gate=l.gate/\m.ay=l.ay:=by unfold aa.aM at hp |-;simp only[dI]at hp;unfold ko;simp only[dj,dI,hp,and_assoc]
def aDZ{L:ae}:(∀l∈L,l.aM->wW F L l)↔(∀l∈L,l.aM->eO F l=false)/\zB L:=by
 constructor
 .intro h;have y:∀l∈L,l.aM->eO F l=false:=λl hl hp=>((Kx hp).1 (h l hl hp)).1;have u:tV F L:=λl hl hp=>((sU hp).1 (y l hl hp)).1.1.1;refine⟨y,(PS u).2 ⟨λl hl hp=>?_,λi j l m x f B Q e=>?_⟩⟩
  .obtain⟨_,H,z,_⟩:=(Kx hp).1 (h l hl hp);have:=u l hl hp;refine⟨this.1,this.2,H,?_⟩;have e:ai (qA l.gate) L=di L l.gate.toNat:=by unfold di ai;congr 1;funext m;exact Rc _ this.1 m
   omega
  have g:vf F L l:=by
   obtain⟨_,H,z,_⟩:=(Kx B).1 (h l (ch x) B);have:=u l (ch x) B;have e:ai (qA l.gate) L=di L l.gate.toNat:=by unfold di ai;congr 1;funext m;exact Rc _ this.1 m
   exact⟨this.1,this.2,H,J⟩
  have M:vf F L m:=by
   obtain⟨_,H,z,_⟩:=(Kx Q).1 (h m (ch f) Q);have:=u m (ch f) Q;have e:ai (qA m.gate) L=di L m.gate.toNat:=by unfold di ai;congr 1;funext m;exact Rc _ this.1 m
   exact⟨this.1,this.2,H,J⟩
  have e2:=(Fj g M).1 e;have hs:=((Kx Q).1 (h m (ch f) Q)).2.2.2;exact(GP f ((UY Q).2 ⟨Q,rfl,rfl⟩)).1 hs i l x ((UY Q).2 ⟨B,e2.1,e2.2⟩)
 rintro⟨y,D⟩ l hl hp
 have u:tV F L:=λl hl hp=>((sU hp).1 (y l hl hp)).1.1.1;obtain⟨A,H⟩:=(PS u).1 D;have g:=A l hl hp;have e:ai (qA l.gate) L=di L l.gate.toNat:=by unfold di ai;congr 1;funext m;exact Rc _ g.g0 m
 obtain⟨i,x⟩:=jL hl;refine(Kx hp).2 ⟨y l hl hp,g.r0,by rw[e];exact g.r1,(GP x ((UY hp).2 ⟨hp,rfl,rfl⟩)).2 λj m f hs=>?_⟩;obtain⟨Q,N,E⟩:=(UY hp).1 hs;exact H j i m l f x Q hp ((Fj (A m (ch f) Q) g).2 ⟨N,E⟩)
def tB(id:Int)(o:Bool)(l:aa):Bool:=l.aF&&(l.id==id&&l.over==o)
def Kk{L:ae}{m:aa}(h:L[j]?=some m)(id:Int)(o:Bool):sI L id o j=tB id o m:=by simp[sI,tB,h]
def rZ{id:Int}{o:Bool}{l:aa}:tB id o l↔l.aF=true/\l.id=id/\l.over=o:=by unfold tB;simp only[dj,dI]
def GW(L:ae):Prop:=∀(i j:Nat) (l m:aa),L[i]?=some l->L[j]?=some m->l.aF->m.aF->l.id=m.id->i≠j->l.over≠m.over/\l.sign=m.sign
def abc(L:ae):Prop:=∀l∈L,l.aF->1<=l.id/\l.id<=((ai aa.aF L/2:Nat):Int)
def aqh{L:ae}{N k:Nat}{l:aa}(h:L[k]?=some l)(u:l.aF):oK L N k↔(1<=l.id/\l.id<=(N:Int))/\i_ L k l.id l.over=none/\ ∀j,i_ L k l.id (!l.over)=some j->DG L j=l.sign:=by
 simp only[oK,h,u,zl,DJ,dj,kB,Option.isNone_iff_eq_none];constructor
 .rintro ⟨m,g,H⟩
  refine⟨m,g,λj f=>?_⟩;rw[f]at H
  simpa using H
 rintro⟨m,g,H⟩
 refine⟨m,g,?_⟩;split
 .rename_i j f
  simpa using H j f
 rfl
def G9{L:ae}:(∀k,k<I L->oK L (ai aa.aF L/2) k)↔abc L/\GW L:=by
 constructor
 .intro h;have Q:∀ {k:Nat}{l:aa},L[k]?=some l->l.aF->_:=λ{k l} M g=>(aqh (N:=ai aa.aF L/2) M g).1 (h k (cD.1 M).1);refine⟨λl hl g=>?_,?_⟩
  .obtain⟨i,H⟩:=jL hl;exact(Q H g).1
  have key:∀(i j:Nat) (l m:aa),L[i]?=some l->L[j]?=some m->l.aF->m.aF->l.id=m.id->i<j->l.over≠m.over/\l.sign=m.sign:=by
   intro i j l m H B y N z E;obtain⟨_,hn,hs⟩:=Q B N;have Z:l.over≠m.over:=by intro e;have:=Nd hn E;rw[Kk H,rZ.2 ⟨y,z,e⟩]at this;cases this
   refine⟨Z,?_⟩;have R:l.over= !m.over:=by revert Z;cases l.over<;>cases m.over<;>simp
   cases A:i_ L j m.id (!m.over)with
   |none=>have:=Nd A E;rw[Kk H,rZ.2 ⟨y,z,R⟩]at this;cases this
   |some p=>
    have h3:=hs p A;obtain⟨X,O⟩:=GX A;obtain⟨x,u,F,D,f⟩:=BS O;have:p=i:=by
     rcases Kw p i with c|c|c
     .have mD:=(Q H y).2.1;have:=Nd mD c;rw[Kk u,rZ.2 ⟨F,by rw[D,z],by rw[f,R]⟩]at this;cases this
     .exact c
     have Y:(List.range j).find? (sI L m.id (!m.over))=some p:=A;rw[List.find?_range_eq_some]at Y;have:=Y.2.2 i c;rw[Kk H,rZ.2 ⟨y,z,R⟩]at this;cases this
    subst this;rw[H]at u;cases u
    simpa [DG,H]using h3
  intro i j l m H B y N z E;rcases aaU E with c|c
  .exact key i j l m H B y N z c
  have:=key j i m l B H N y z.symm c;exact⟨λe=>this.1 e.symm,this.2.symm⟩
 rintro⟨h1,T⟩ k M
 obtain⟨l,hl⟩:=aR M;cases g:l.aF with
 |false=>simp[oK,hl,g]
 |true=>
  refine(aqh hl g).2 ⟨h1 l (ch hl) g,?_,λj B=>?_⟩
  .cases A:i_ L k l.id l.over with
   |none=>rfl
   |some p=>obtain⟨X,O⟩:=GX A;obtain⟨x,u,F,D,f⟩:=BS O;exact absurd f (T p k x l u hl F g D J).1
  obtain⟨X,O⟩:=GX B;obtain⟨x,u,F,D,f⟩:=BS O;have:=(T j k x l u hl F g D J).2;simp[DG,u,this]
def aB0(L:ae):∀ids:cV,ids.Nodup->(ids.map λid=>ai (nC id) L).sum=ai (λl=>l.aF&&ids.contains l.id) L:=by
 intro ids
 induction ids with
 |nil=>intro _;simp[ai]
 |cons a ids g=>
  intro f;rw[o0]at f;rw[eR,Nc,g f.2];refine(aed (p:=nC a) (q:=λl=>l.aF&&ids.contains l.id) (r:=λl=>l.aF&&(a::ids).contains l.id) ?_ ?_ L).symm
  .intro l;simp only[nC,dj,dI,O_,kB,dk];constructor
   .rintro ⟨H,h|h⟩
    .exact .inl ⟨H,h⟩
    exact .inr ⟨H,h⟩
   rintro(⟨H,h⟩|⟨H,h⟩)
   .exact⟨H,.inl h⟩
   exact⟨H,.inr h⟩
  intro l;simp only[nC,dj,dI,O_,kB];rintro⟨_,H⟩ ⟨_,h⟩
  exact f.1 (H▸h)
def Uz{L:ae}{l:aa}(hl:l∈L)(H:l.aF):l.id∈gY L (I L):=by obtain⟨i,h⟩:=jL hl;refine(GY (cT _)).2 ⟨i,l.over,(cD.1 h).1,?_⟩;rw[Kk h];exact rZ.2 ⟨H,rfl,rfl⟩
def aab(L:ae):((gY L (I L)).map λid=>ai (nC id) L).sum=ai aa.aF L:=by
 rw[aB0 _ _ (Uk L _)];apply Ka;intro l hl;cases h:l.aF with
 |false=>simp
 |true=>simp[Uz hl h]
def R5(id:Int)(L:ae):ai (nC id) L=ai (tB id true) L+ai (tB id false) L:=by
 refine aed ?_ ?_ L
 .intro l;rw[rZ,rZ];simp only[nC,dj,dI];cases l.over<;>simp
 intro l;rw[rZ,rZ];rintro⟨_,_,H⟩ ⟨_,_,h⟩
 rw[H]at h;cases h
def adA(id:Int)(o:Bool)(L:ae):ai (nC id) L=ai (tB id o) L+ai (tB id (!o)) L:=by
 rw[R5];cases o with
 |true=>rfl
 |false=>simp only[GD];omega
def BJ{L:ae}(h:GW L)(id:Int)(o:Bool):ai (tB id o) L<=1:=by refine atS λi j l m H x hl u=>?_;obtain⟨y,z,B⟩:=rZ.1 hl;obtain⟨g,M,f⟩:=rZ.1 u;refine Decidable.byContradiction λA=>?_;exact(h i j l m H x y g (by rw[z,M]) A).1 (by rw[B,f])
def afK{f:Int->Nat}:∀ids:cV,(∀x∈ids,f x<=2)->(ids.map f).sum<=2*I ids:=by
 intro ids
 induction ids with
 |nil=>intro _;simp
 |cons a ids g=>intro h;have:=g λx H=>h x (xo _ H);have:=h a HU;simp only[eR,Nc,dw];omega
def agO{f:Int->Nat}:∀ids:cV,(∀x∈ids,f x<=2)->(ids.map f).sum=2*I ids->∀x∈ids,f x=2:=by
 intro ids
 induction ids with
 |nil=>intro _ _ x H;cases H
 |cons a ids g=>
  intro h hs;have m:=afK ids λx H=>h x (xo _ H);have j:=h a HU;simp only[eR,Nc,dw]at hs;intro x H;rcases dk.1 H with rfl|H
  .omega
  exact g (λx H=>h x (xo _ H)) J x H
def asw{f:Int->Nat}:∀ids:cV,(∀x∈ids,f x=2)->(ids.map f).sum=2*I ids:=by
 intro ids
 induction ids with
 |nil=>intro _;simp
 |cons a ids g=>intro h;have:=g λx H=>h x (xo _ H);have:=h a HU;simp only[eR,Nc,dw];omega
def WK{l m:aa}(h:l.aF):jM l m↔m.aF=true/\m.id=l.id/\m.sign=l.sign/\m.over= !l.over:=by unfold aa.aF at h |-;simp only[dI]at h;unfold jM;simp only[dj,dI,h,and_assoc,mP,ng,ne_eq];cases l.over<;>cases m.over<;>simp
def M6{l:aa}(h:l.aF):eO f l=false↔(l.gate=0/\l.ay=0)/\(l.sign !=1&&l.sign != -1)=false:=by
 unfold aa.aF at h;have H:(l.kind==1)=false:=by simp only[dI]at h;rw[h];rfl
 simp only[eO,h,H,if_true,HG,bne_eq_false_iff_eq];simp
def ajA{L:ae}{l:aa}(H:l.aF):oj L l↔eO f l=false/\(1<=l.id/\l.id<=((ai aa.aF L/2:Nat):Int))/\ai (jM l) L=1/\ai (nC l.id) L=2:=by
 rw[M6 H];unfold oj;simp only[mP,HG,decide_eq_false_iff_not,bne_eq_false_iff_eq];constructor
 .rintro ⟨⟨⟨⟨⟨⟨a,b⟩,c⟩,d⟩,e⟩,g⟩,h⟩
  exact⟨⟨⟨a,b⟩,c⟩,⟨J,J⟩,J,J⟩
 rintro⟨⟨⟨a,b⟩,c⟩,⟨d,e⟩,g,h⟩
 exact⟨⟨⟨⟨⟨⟨a,b⟩,c⟩,J⟩,J⟩,J⟩,J⟩
def ayu{L:ae}:(∀l∈L,l.aF->oj L l)↔(∀l∈L,l.aF->eO f l=false)/\nX L:=by
 have Qd:=aab L;constructor
 .intro h;have N:=λl hl H=>(ajA (f:=f) H).1 (h l hl H);have hp:GW L:=by
   intro i j l m u B M A0 he fE;obtain⟨_,_,h3,h4⟩:=N l (ch u) M;have e1:=adA l.id l.over L;have g1:0<ai (tB l.id l.over) L:=xk.2 ⟨l,ch u,rZ.2 ⟨M,rfl,rfl⟩⟩;obtain⟨x,y,O⟩:=xk.1 (show 0<L.countP (jM l) by show 0<ai (jM l) L;omega);obtain⟨E,X,F,x4⟩:=(WK M).1 O;have A:0<ai (tB l.id (!l.over)) L:=xk.2 ⟨x,y,rZ.2 ⟨E,X,x4⟩⟩;have u1:ai (tB l.id l.over) L=1:=J;have T:ai (tB l.id (!l.over)) L=1:=J;have ho:l.over≠m.over:=by intro e;have:=(GP u (rZ.2 ⟨M,rfl,rfl⟩)).1 u1 j m B (rZ.2 ⟨A0,he.symm,e.symm⟩);exact fE this.symm
   refine⟨ho,?_⟩;have nj:m.over= !l.over:=by revert ho;cases l.over<;>cases m.over<;>simp
   obtain⟨p,g⟩:=jL y;have:=(GP B (rZ.2 ⟨A0,he.symm,nj⟩)).1 T p x g (rZ.2 ⟨E,X,x4⟩);subst this;rw[g]at B;cases B;exact F.symm
  have R:∀id∈gY L (I L),ai (nC id) L=2:=by intro id z;obtain⟨j,o,h1,Q⟩:=(GY (cT _)).1 z;obtain⟨m,hm,H,u,_⟩:=BS Q;rw[<-u];exact(N m (ch hm) H).2.2.2
  rw[asw _ R]at Qd;refine⟨λl hl H=>(N l hl H).1,?_⟩;have y:=(G9 (L:=L)).2 ⟨λl hl H=>(N l hl H).2.1,hp⟩;rw[aaI J y];simp only[dI];omega
 rintro⟨hb,Z⟩ l hl H
 unfold nX at Z;simp only[dj,dI,jP,gI]at Z;obtain⟨⟨he,y⟩,D⟩:=Z;obtain⟨z,hp⟩:=G9.1 y;have ab:∀id∈gY L (I L),ai (nC id) L<=2:=λid _=>by rw[R5 id];have:=BJ hp id true;have:=BJ hp id false;omega
 have Q:=agO _ ab (by rw[Qd,D];omega) l.id (Uz hl H);have e1:=adA l.id l.over L;have b1:=BJ hp l.id l.over;have b2:=BJ hp l.id (!l.over);refine(ajA H).2 ⟨hb l hl H,z l hl H,?_,Q⟩;have T:ai (tB l.id (!l.over)) L=1:=J;obtain⟨i,u⟩:=jL hl;obtain⟨x,y,O⟩:=xk.1 (show 0<L.countP (tB l.id (!l.over)) by show 0<ai (tB l.id (!l.over)) L;omega);obtain⟨p,g⟩:=jL y;obtain⟨E,X,F⟩:=rZ.1 O;have ie:p≠i:=by
  rintro rfl
  rw[u]at g;cases g;revert F;cases l.over<;>simp
 have Y:=(hp p i x l g u E H X ie).2;refine(GP g ((WK H).2 ⟨E,X,Y,F⟩)).2 λj m B hm=>?_;obtain⟨m1,m2,m3,m4⟩:=(WK H).1 hm;exact(GP g O).1 T j m B (rZ.2 ⟨m1,m2,m4⟩)
def yO{l:aa}(h:eO f l=false):l.aM\/l.aF:=by
 unfold aa.aM aa.aF;cases H:(l.kind==1)with
 |true=>exact .inl rfl
 |false=>
  cases g:(l.kind==2)with
  |true=>exact .inr rfl
  |false=>simp only[eO,H,g]at h;cases h
def q_{l:aa}(hp:l.aM):l.aF=false:=by unfold aa.aM at hp;unfold aa.aF;simp only[dI]at hp;rw[hp];rfl
def ae8{L:ae}{l:aa}(hp:l.aM):gJ f L l=wW f L l:=by unfold aa.aM at hp;simp only[gJ,hp,if_true]
def alu{L:ae}{l:aa}(hp:l.aF):gJ f L l=oj L l:=by
 unfold aa.aF at hp;have h:(l.kind==1)=false:=by simp only[dI]at hp;rw[hp];rfl
 simp only[gJ,hp,h,if_true];simp
def WT{L:ae}:xP F L↔L.any (eO F)=false/\zB L/\nX L:=by
 unfold xP;rw[jP,E5];have e1:=aDZ (F:=F) (L:=L);have e2:=ayu (f:=(F:Int)) (L:=L);constructor
 .intro h;have z:=λ{l:aa} (hl:l∈L)=>aoM (f:=F) (L:=L) (jP.2 h) (jL hl).choose_spec;obtain⟨m,u⟩:=e1.1 λl hl hp=>by rw[<-ae8 hp];exact h l hl
  obtain⟨A,y⟩:=e2.1 λl hl g=>by rw[<-alu (f:=F) g];exact h l hl
  refine⟨λl hl=>?_,u,y⟩;rcases z hl with hp|g
  .rw[m l hl hp];simp
  rw[A l hl g];simp
 rintro⟨H,x,g⟩ l hl
 have H:∀l∈L,eO F l=false:=λl hl=>by simpa using H l hl
 rcases yO (H l hl)with hp|j
 .rw[ae8 hp];exact e1.2 ⟨λl hl _=>H l hl,x⟩ l hl hp
 rw[alu j];exact e2.2 ⟨λl hl _=>H l hl,g⟩ l hl j
def axY{o:aG}(hs:o.Pairwise (· < ·))(A:∀x∈o,x<I o):∀(k:Nat) (h:k<I o),o[k]=k:=by
 rw[Gf]at hs;have lo:∀(k:Nat) (h:k<I o),k<=o[k]:=by
  intro k
  induction k with
  |zero=>intro _;omega
  |succ k f=>intro h;have:=f J;have:=hs k (k+1) J h J;omega
 have H:∀(d k:Nat) (h:k<I o),k+d+1=I o->o[k]<=k:=by
  intro d
  induction d with
  |zero=>intro k h e;have:=A _ (UI h);omega
  |succ d f=>intro k h e;have:=f (k+1) J J;have:=hs k (k+1) h J J;omega
 intro k h;have:=lo k h;have:=H (I o-k-1) k h J;omega
def auM{key:Nat->Nat}{p:Nat->Bool}{i:Nat}:∀ {o:aG},o.Pairwise (λa b=>key a<key b)->(∀x∈o,p x=decide (key x<key i))->(∀x∈o,key x≠key i)->
  (o.take (I (o.takeWhile p))++i::o.drop (I (o.takeWhile p))).Pairwise (λa b=>key a<key b):=by
 intro o
 induction o with
 |nil=>intro _ _ _;simp
 |cons a o g=>
  intro hs hp f;rw[tD]at hs;have pa:=hp a HU;have N:=f a HU;by_cases A:key a<key i
  .have Q:p a:=by rw[pa];simpa using A
   rw[List.takeWhile_cons,aH Q];simp only[dw,Es,List.drop_succ_cons,nA];rw[tD];refine⟨λb h=>?_,g hs.2 (λx H=>hp x (xo _ H)) (λx H=>f x (xo _ H))⟩;rcases fc.1 h with h|h
   .exact hs.1 b (yk h)
   rcases dk.1 h with rfl|h
   .exact A
   exact hs.1 b (wx h)
  have Q:¬p a=true:=by rw[pa];simpa using A
  rw[List.takeWhile_cons,aw Q];simp only[eK,Qh,Ih,fN];rw[tD,tD];refine⟨λb h=>?_,hs⟩;rcases dk.1 h with rfl|h
  .omega
  have:=hs.1 b h;omega
def Gz{L:ae}{i:Nat}{l:aa}(h:L[i]?=some l)(hp:l.aM):Br L i=fH L l:=by simp[Br,h,hp]
structure CT (F:Nat) (ls:ae):Prop where
 fK:∀l∈ls,l.aM->vf F ls l
 inj:∀(i j:Nat) (l m:aa),ls[i]?=some l->ls[j]?=some m->l.aM->m.aM->fH ls l=fH ls m->i=j
def aeS{L:ae}(h:CT F L):∀k,k<=I L->(qe L k).Pairwise (λa b=>Br L a<Br L b):=by
 intro k
 induction k with
 |zero=>intro _;simp[qe]
 |succ k j=>
  intro A;have j:=j J;rw[KQ];obtain⟨l,hl⟩:=aR (show k<I L by omega);unfold CK;rw[hl];simp only;cases hp:l.aM with
  |false=>simpa using j
  |true=>
   simp only[if_true];unfold AQ;have H:=λ{x:Nat} (f:x∈qe L k)=>(apC (L:=L) (k:=k) J).1 f;refine auM j (λx f=>?_) (λx f e=>?_)
   .obtain⟨y,m,H,g⟩:=H f;rw[Gz H g,Gz hl hp];unfold BR;rw[H,hl];simp only;have:=age (h.fK m (ch H) g) (h.fK l (ch hl) hp);cases u:Fi m l with
    |true=>simpa using this.1 u
    |false=>symm;rw[decide_eq_false_iff_not];intro z;rw[this.2 z]at u;cases u
   obtain⟨y,m,H,g⟩:=H f;rw[Gz H g,Gz hl hp]at e;have:=h.inj x k m l H hl g hp e;omega
def asM{L:ae}:∀k,k<=I L->I (qe L k)=ai aa.aM (L.take k):=by
 intro k
 induction k with
 |zero=>intro _;simp[qe,ai]
 |succ k f=>
  intro h;have f:=f J;rw[KQ];obtain⟨l,hl⟩:=aR (show k<I L by omega);unfold CK;rw[hl];simp only;cases hp:l.aM with
  |false=>rw[lW hl hp];simpa using f
  |true=>simp only[if_true];rw[avu,tU hl hp,f]
def O2{L:ae}:I (aL L)=ai aa.aM L:=by have:=asM (L:=L) (I L) (cT _);rwa[jN]at this
def HH{L:ae}(h:tV F L):iR L (F+1)=I (aL L):=by
 rw[O2,aeU];apply Ka;intro l hl;cases hp:l.aM with
 |false=>simp
 |true=>have:=h l hl hp;simp only[tg,dj,kB,iff_true];omega
def CT.tV{L:ae}(h:CT F L):tV F L:=λl hl hp=>⟨(h.fK l hl hp).g0,(h.fK l hl hp).g1⟩
def Af{L:ae}(h:CT F L){k i:Nat}(H:(aL L)[k]?=some i):∃l,L[i]?=some l/\l.aM/\fH L l=k:=by
 have hs:((aL L).map (Br L)).Pairwise (· < ·):=by rw[yK];exact aeS h (I L) (cT _)
 have m:=HH h.tV;have A:∀x∈(aL L).map (Br L),x<I ((aL L).map (Br L)):=by intro x f;obtain⟨j,g,rfl⟩:=eg.1 f;obtain⟨l,hl,hp⟩:=uh.1 g;rw[Gz hl hp,cH,<-m];exact abj (h.fK l (ch hl) hp)
 obtain⟨D,u⟩:=cD.1 H;have:=axY hs A k (by rw[cH];exact D);rw[CC,u]at this;obtain⟨l,hl,hp⟩:=uh.1 (ch H);exact⟨l,hl,hp,by rw[<-Gz hl hp];exact this⟩
def WX{L:ae}(h:CT F L){i:Nat}{l:aa}(hl:L[i]?=some l)(hp:l.aM):(aL L)[fH L l]?=some i:=by have A:=abj (h.fK l (ch hl) hp);rw[HH h.tV]at A;obtain⟨j,H⟩:=aR A;obtain⟨m,f,u,g⟩:=Af h H;rw[H,h.inj j i m l f hl u hp g]
def Nk{L:ae}(h:CT F L){i:Nat}{l:aa}(hl:L[i]?=some l)(hp:l.aM):(aL L).idxOf i=fH L l:=by have j:=WX h hl hp;have f:=ap0 (ch j);obtain⟨m,H,u,g⟩:=Af h f;rw[hl]at H;cases H;exact g.symm
def axE{L:ae}(h:CT F L):uw L (iR L (F+1)) (I L)=aL L:=by
 apply v_
 .rw[alF,HH h.tV]
 intro k A x;simp only[uw,CC,GQ];obtain⟨l,hl,hp,f⟩:=Af h (sT x);generalize(aL L)[k]=i at hl;unfold Nr;have y:=(cD.1 hl).1;have u:(List.range (I L)).find? (uB L k)=some i:=by
  refine Cz y (λj z=>?_) ?_
  .cases H:uB L k j with
   |false=>rfl
   |true=>
    unfold uB at H;split at H
    .rename_i m g;simp only[dj,dI]at H;have:=h.inj j i m l g hl H.1 hp (by rw[H.2,f]);omega
    cases H
  rw[O7 hl hp];simp[f]
 rw[u];rfl
def VT{L:ae}(D:nX L){i:Nat}{l:aa}(hl:L[i]?=some l)(T:l.aF):i_ L (I L) l.id (!l.over)=some (iK L i)/\iK L i<I L:=by
 have Qd:=aab L;unfold nX at D;simp only[dj,dI,jP,gI]at D;obtain⟨⟨he,E⟩,g⟩:=D;obtain⟨ab,hp⟩:=G9.1 E;have F:∀id∈gY L (I L),ai (nC id) L<=2:=λid _=>by rw[R5 id];have:=BJ hp id true;have:=BJ hp id false;omega
 have H:=agO _ F (by rw[Qd,g];omega) l.id (Uz (ch hl) T);have e1:=adA l.id l.over L;have b1:=BJ hp l.id l.over;have b2:=BJ hp l.id (!l.over);obtain⟨x,E,N⟩:=xk.1 (show 0<L.countP (tB l.id (!l.over)) by show 0<ai (tB l.id (!l.over)) L;omega);obtain⟨p,f⟩:=jL E;obtain⟨R,Q,X⟩:=rZ.1 N;have h:=(cD.1 f).1;have ie:p≠i:=by
  rintro rfl
  rw[hl]at f;cases f;revert X;cases l.over<;>simp
 have u:∀(j:Nat) (m:aa),L[j]?=some m->m.aF->m.id=l.id->j≠i->j=p:=by intro j m A M od B;refine Decidable.byContradiction λaN=>?_;have o1:=(hp j i m l A hl M T od B).1;have O:=(hp j p m x A f M R (by rw[od,Q]) aN).1;rw[X]at O;revert o1 O;cases m.over<;>cases l.over<;>simp
 have Cm:(List.range (I L)).find? (Ag L i)=some p:=by
  refine Cz h (λj A=>?_) ?_
  .cases y:Ag L i j with
   |false=>rfl
   |true=>
    unfold Ag at y;simp only[dj,bne_iff_ne,ne_eq]at y;obtain⟨Z,H⟩:=y;split at H
    .rename_i m z;simp only[dj,dI,hl,se,mO]at H;have:=u j m z H.1 H.2 Z;omega
    cases H
  unfold Ag;rw[f];simp[ie,R,hl,Q]
 have ho:iK L i=p:=by unfold iK;rw[Cm];rfl
 rw[ho];refine⟨?_,h⟩;unfold i_;refine Cz h (λj A=>?_) ?_
 .cases y:sI L l.id (!l.over) j with
  |false=>rfl
  |true=>
   obtain⟨m,z,M,od,Y⟩:=BS y;have B:j≠i:=by
    rintro rfl
    rw[hl]at z;cases z;revert Y;cases l.over<;>simp
   have:=u j m z M od B;omega
 rw[Kk f];exact N
end
end Go.Abs
