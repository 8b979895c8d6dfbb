/- A part. -/
import Derived.Test.YtenindeoffokoaaGreatDoorSa
set_option linter.all false
open List renaming length->I
set_option maxRecDepth 100000
set_option maxHeartbeats 16000000
namespace Go.Abs
variable{x n m z v F T:Nat}{f:Int}{j:bJ}{Q:iw}
structure U where
 kind:Int
 gate:Int
 au:Int
 id:Int
 sign:Int
 over:Bool
 deriving DecidableEq
abbrev af:=List U
variable{h:af}
abbrev v8:=List af
def U.ps(l:U):dW:=[.int .i64 l.kind,.int .i64 l.gate,.int .i64 l.au,.int .i64 l.id,.int .i64 l.sign,.bool l.over]
def U.ay(l:U):Bool:=l.kind==1
def U.ak(l:U):Bool:=l.kind==2
abbrev gC(ls:af):PV:=.sl (ls.map U.ps)
abbrev eU(f:Int)(ls:af):V:=.agg [.p (.int .i64 f),.p (gC ls)]
abbrev oi(f:Int)(ls:af):eO:=[.p (.int .i64 f),.p (gC ls)]
abbrev aI(k:Int):V:=.one (.p (.int .i64 k))
abbrev i_(b:Bool):V:=.one (.p (.bool b))
abbrev jr(k:Int):RV:=.one (.p (.int .i64 k))
abbrev fv(k:Bool):RV:=.one (.p (.bool k))
abbrev aq(p:U->Bool)(ls:af):Nat:=ls.countP p
def aP{α:Type}{h:List α}{k:Nat}(H:k<I h):∃l,h[k]?=some l:=⟨h[k],by simp[H]⟩
theorem sG{p:U->Bool}{k:Nat}{l:U}(f:h[k]?=some l)(hp:p l):aq p (h.take (k+1))=aq p (h.take k)+1:=by unfold aq;obtain⟨H,rfl⟩:=bt.1 f;rw[Yz H,uu,aaA,aD hp]
theorem lB{p:U->Bool}{k:Nat}{l:U}(f:h[k]?=some l)(hp:p l=false):aq p (h.take (k+1))=aq p (h.take k):=by unfold aq;obtain⟨H,rfl⟩:=bt.1 f;rw[Yz H,uu,aaA,hp];rfl
def Bb(p:U->Bool)(h:af)(k:Nat):aq p (h.take k)<=k:=oO NY (by rw[jO];exact Nat.min_le_left _ _)
def vo(p:U->Bool)(h:af):aq p h<=I h:=NY
def jh{k:Nat}{l:U}(H:h[k]?=some l):(h.map U.ps)[k]?=some l.ps:=by simp[H]
def tm{a b:Nat}(h:a+b<=9223372036854775807):IntKind.i64.wrap ((a:Int)+(b:Int))=((a+b:Nat):Int):=wrap_small (n:=a+b) h
def rQ{a:Nat}(h:2*a<=9223372036854775807):IntKind.i64.wrap (2*(a:Int))=((2*a:Nat):Int):=wrap_small (n:=2*a) h
def abe{a b:Nat}(h:b<=a)(H:a<=9223372036854775807):IntKind.i64.wrap ((a:Int)-(b:Int))=((a-b:Nat):Int):=by have:((a:Int)-(b:Int))=((a-b:Nat):Int):=J;rw[this];exact wrap_small J
def Ig{a:Nat}(h:1<=a)(H:a<=9223372036854775807):IntKind.i64.wrap ((a:Int)-1)=((a-1:Nat):Int):=abe (b:=1) h H
def aaT(x y:Option (dW×aG))(f:Nat):Option (PV×aG):=match x,y with
 |some (x,r),some (y,s)=>some (.fn f x y,r++s)
 |_,_=>none
def arC{x y:dW}{r s:aG}{f:Nat}:aaT (some (x,r)) (some (y,s)) f=some (.fn f x y,r++s):=rfl
def awA{blk:aJ}{f:Nat}{a b:eO}:snap blk jl (.hfn f a b)=aaT (iB (snap blk 5) a) (iB (snap blk 5) b) f:=by unfold jl;rw[snap];unfold aaT;rfl
def auC{blk:aJ}{id g:Nat}:snap blk (n+1) (.bR id g m)=QU (blk id) (iB (snap blk n)) id g m:=by rw[snap];rfl
def anX{blk:aJ}{id g len:Nat}:snap blk (n+1) (.hsl id g z m len)=Vs (blk id) (iB (iB (snap blk n))) id g m len:=by rw[snap];rfl
def aS{b:Bool}(h:b:=by kernel_rfl):b:=h
def cG{f:Nat}{fn:aZ}{A:dZ}{r:RV}(hf:S.fns f=some fn)(h:W S .all fn.body (sW .all fn.results λv blk=>lM blk v=some r) (tl A) Bc)(hp:S.prim f A=none:=by rfl)(hl:I A<=fn.ntmps:=by exact ju rfl):aL S f A r:=azv hp hf hl h
def jG:¬((2:Int)=0):=aa
def xw(a b:Nat):(a:Int).tmod b=((a%b:Nat):Int):=by rw[ah9 J];rfl
def pV(a:Nat):(a:Int).tmod 2=((a%2:Nat):Int):=xw a 2
def mx(a:Nat):(a:Int).tdiv 2=((a/2:Nat):Int):=by rw[Wv J];rfl
def fF:¬((n:Int)<(n:Int)):=J
def eR(l:U):I l.ps=6:=rfl
def aoT{blk:aJ}{all:aG}:tY blk all []=some []:=rfl
attribute [go_sem] awA arC auC anX aoT
def td(g:Int)(l:U):Bool:=l.ay&&l.gate==g
def pE(g:Int)(l:U):Bool:=l.ak&&l.id==g
def abY(f:Int)(h:af)(hl:I h<=1000000):aL S 40 [eU f h] (jr (aq U.ay h)):=by
 refine cG ant ?_;simp only[go_sem,akJ,ai,aB];refine dt (λk j _=>j 7=.one (.p (gC h))/\j 8=aI (I h)/\j 9=aI k/\j 3=aI (aq U.ay (h.take k))) 0 (I h) (bZ _) ?_ ?_
 .simp only[go_sem];exact⟨rfl,rfl⟩
 rintro k j blk L ⟨B,m,u,H⟩
 by_cases A:k<I h
 .obtain⟨l,D⟩:=aP A;have y:=jh D;have z:((k:Int)<(I h:Int)):=J;have F:=Bb (U.ay) h k;have x:=cS (n:=k) J;have E:=cS (n:=aq (U.ay) (h.take k)) J;cases hp:(l.kind==1)
  case' true=>have v:=sG (p:=U.ay) D hp
  case' false=>have v:=lB (p:=U.ay) D hp
  all_goals
   simp only[go_sem,XY,H,B,m,u,y,eR,U.ps,z,x,E,hp,v,ai,aB];first|exact A|exact⟨A,rfl⟩
 have:k=I h:=J;subst this;rw[jZ]at H;simp only[go_sem,XY,ajw,H,m,u,fF,ai,aB]
def abT(f:Int)(h:af)(hl:I h<=1000000):aL S 46 [eU f h] (jr (aq U.ak h)):=by
 refine cG aBb ?_;simp only[go_sem,i46,ai,aB];refine dt (λk j _=>j 7=.one (.p (gC h))/\j 8=aI (I h)/\j 9=aI k/\j 3=aI (aq U.ak (h.take k))) 0 (I h) (bZ _) ?_ ?_
 .simp only[go_sem];exact⟨rfl,rfl⟩
 rintro k j blk L ⟨B,m,u,H⟩
 by_cases A:k<I h
 .obtain⟨l,D⟩:=aP A;have y:=jh D;have z:((k:Int)<(I h:Int)):=J;have F:=Bb (U.ak) h k;have x:=cS (n:=k) J;have E:=cS (n:=aq (U.ak) (h.take k)) J;cases hp:(l.kind==2)
  case' true=>have v:=sG (p:=U.ak) D hp
  case' false=>have v:=lB (p:=U.ak) D hp
  all_goals
   simp only[go_sem,aaK,H,B,m,u,y,eR,U.ps,z,x,E,hp,v,ai,aB]
   grind
 have:k=I h:=J;subst this;rw[jZ]at H;simp only[go_sem,aaK,amG,H,m,u,fF,ai,aB]
def als(f:Int)(h:af)(hl:I h<=1000000):aL S 41 [eU f h] (jr ((aq U.ak h/2:Nat))):=by
 have H:=vo U.ak h;have E:IntKind.i64.wrap ((aq U.ak h:Int).tdiv 2)=((aq U.ak h/2:Nat):Int):=by
  have:(aq U.ak h:Int).tdiv 2=((aq U.ak h/2:Nat):Int):=by rw[Wv J];omega
  rw[this];exact wrap_small J
 refine cG aom ?_;simp only[go_sem,ahe,Gs,gr (abT f h hl),E,(by decide:¬(2:Int)=0),ai,aB]
def asx(f:Int)(h:af)(hl:I h<=1000000):aL S 24 [eU f h] (jr (aq U.ay h)):=by
 refine cG atg ?_;simp only[go_sem,adz,ai,aB];refine dt (λk j blk=>j 1=.one (.bR 1536000000 1 0)/\blk 1536000000=(1,some (.var (oi f h)))/\j 4=aI k/\j 3=aI (aq U.ay (h.take k))) 0 (I h) (bZ _) ?_ ?_
 .simp only[go_sem]
  grind
 rintro k j blk F ⟨u,H,N,m⟩
 by_cases A:k<I h
 .obtain⟨l,D⟩:=aP A;have y:=jh D;have z:((k:Int)<(I h:Int)):=J;have E:=Bb (U.ay) h k;have x:=cS (n:=k) J;have B:=cS (n:=aq (U.ay) (h.take k)) J;cases hp:(l.kind==1)
  case' true=>have v:=sG (p:=U.ay) D hp
  case' false=>have v:=lB (p:=U.ay) D hp
  all_goals
   simp only[go_sem,abJ,u,H,N,m,y,eR,U.ps,z,x,B,hp,v,ai,aB]
   grind
 have:k=I h:=J;subst this;rw[jZ]at m;simp only[go_sem,abJ,ae3,u,H,N,m,fF,ai,aB]
def aaF(f:Int)(h:af)(hl:I h<=1000000):aL S 23 [eU f h] (jr (aq U.ak h)):=by
 refine cG aBM ?_;simp only[go_sem,afC,ai,aB];refine dt (λk j blk=>j 1=.one (.bR 1472000000 1 0)/\blk 1472000000=(1,some (.var (oi f h)))/\j 4=aI k/\j 3=aI (aq U.ak (h.take k))) 0 (I h) (bZ _) ?_ ?_
 .simp only[go_sem]
  grind
 rintro k j blk F ⟨u,H,N,m⟩
 by_cases A:k<I h
 .obtain⟨l,D⟩:=aP A;have y:=jh D;have z:((k:Int)<(I h:Int)):=J;have E:=Bb (U.ak) h k;have x:=cS (n:=k) J;have B:=cS (n:=aq (U.ak) (h.take k)) J;cases hp:(l.kind==2)
  case' true=>have v:=sG (p:=U.ak) D hp
  case' false=>have v:=lB (p:=U.ak) D hp
  all_goals
   simp only[go_sem,WI,u,H,N,m,y,eR,U.ps,z,x,B,hp,v,ai,aB]
   grind
 have:k=I h:=J;subst this;rw[jZ]at m;simp only[go_sem,WI,aix,u,H,N,m,fF,ai,aB]
def avd(f:Int)(h:af)(hl:I h<=1000000):aL S 27 [eU f h] (jr ((aq U.ak h/2:Nat))):=by
 have H:=vo U.ak h;have E:IntKind.i64.wrap ((aq U.ak h:Int).tdiv 2)=((aq U.ak h/2:Nat):Int):=by
  have:(aq U.ak h:Int).tdiv 2=((aq U.ak h/2:Nat):Int):=by rw[Wv J];omega
  rw[this];exact wrap_small J
 refine cG aoo ?_;simp only[go_sem,agz,zT,gr (aaF f h hl),E,(by decide:¬(2:Int)=0),ai,aB]
def awW(f:Int)(h:af)(hl:I h<=1000000)(g:Int):aL S 48 [eU f h,aI g] (jr (aq (td g) h)):=by
 refine cG as0 ?_;simp only[go_sem,ahd,ai,aB];refine dt (λk j blk=>j 2=.one (.bR 3072000000 1 0)/\blk 3072000000=(1,some (.var (oi f h)))/\j 6=aI k/\j 5=aI (aq (td g) (h.take k))/\j 1=aI g) 0 (I h) (bZ _) ?_ ?_
 .simp only[go_sem];first|exact⟨rfl,rfl⟩|exact _
 rintro k j blk M ⟨u,v,N,m,F⟩
 by_cases A:k<I h
 .obtain⟨l,D⟩:=aP A;have y:=jh D;have z:((k:Int)<(I h:Int)):=J;have L:=Bb ((td g)) h k;have x:=cS (n:=k) J;have B:=cS (n:=aq ((td g)) (h.take k)) J;cases hp:(l.kind==1)with
  |true=>
   cases H:(l.gate==g)
   case' true=>have E:=sG (p:=(td g)) D (by simp only[td,U.ay,hp,H];rfl)
   case' false=>have E:=lB (p:=(td g)) D (by simp only[td,U.ay,hp,H];rfl)
   all_goals
    simp only[go_sem,Ti,u,v,N,m,y,eR,U.ps,z,x,B,F,hp,H,E,ai,aB];first|exact A|exact _
  |false=>simp only[go_sem,Ti,u,v,N,m,y,eR,U.ps,z,x,B,F,hp,lB (p:=(td g)) D (by simp only[td,U.ay,hp];rfl),ai,aB];first|exact A|exact⟨A,rfl⟩
 have:k=I h:=J;subst this;rw[jZ]at m;simp only[go_sem,Ti,akx,u,v,N,m,fF,ai,aB]
def ase(f:Int)(h:af)(hl:I h<=1000000)(g:Int):aL S 49 [eU f h,aI g] (jr (aq (pE g) h)):=by
 refine cG azA ?_;simp only[go_sem,adq,ai,aB];refine dt (λk j blk=>j 2=.one (.bR 3136000000 1 0)/\blk 3136000000=(1,some (.var (oi f h)))/\j 6=aI k/\j 5=aI (aq (pE g) (h.take k))/\j 1=aI g) 0 (I h) (bZ _) ?_ ?_
 .simp only[go_sem];first|exact⟨rfl,rfl⟩|exact _
 rintro k j blk M ⟨u,v,N,m,F⟩
 by_cases A:k<I h
 .obtain⟨l,D⟩:=aP A;have y:=jh D;have z:((k:Int)<(I h:Int)):=J;have L:=Bb ((pE g)) h k;have x:=cS (n:=k) J;have B:=cS (n:=aq ((pE g)) (h.take k)) J;cases hp:(l.kind==2)with
  |true=>
   cases H:(l.id==g)
   case' true=>have E:=sG (p:=(pE g)) D (by simp only[pE,U.ak,hp,H];rfl)
   case' false=>have E:=lB (p:=(pE g)) D (by simp only[pE,U.ak,hp,H];rfl)
   all_goals
    simp only[go_sem,Sc,u,v,N,m,y,eR,U.ps,z,x,B,F,hp,H,E,ai,aB];first|exact A|exact _
  |false=>simp only[go_sem,Sc,u,v,N,m,y,eR,U.ps,z,x,B,F,hp,lB (p:=(pE g)) D (by simp only[pE,U.ak,hp];rfl),ai,aB];first|exact A|exact⟨A,rfl⟩
 have:k=I h:=J;subst this;rw[jZ]at m;simp only[go_sem,Sc,alO,u,v,N,m,fF,ai,aB]
def dn (h:af)(i:Nat):Bool:=aq U.ay (h.take i)%2==0
def M1(f:Int)(h:af)(i:Nat)(hl:I h<=1000000)(M:i<=I h):aL S 57 [eU f h,aI i] (fv (dn h i)):=by
 refine cG aAY ?_;simp only[go_sem,adS,ai,aB];refine dt (λk j blk=>j 1=aI i/\j 2=.one (.bR 3648000000 1 0)/\blk 3648000000=(1,some (.var (oi f h)))/\j 6=aI k/\j 5=aI (aq U.ay (h.take k))) 0 i (bZ _) ?_ ?_
 .simp only[go_sem];exact⟨rfl,rfl⟩
 rintro k j blk Q ⟨H,D,u,N,m⟩
 have O:=Bb U.ay h k;by_cases A:k<i
 .obtain⟨l,v⟩:=aP (h:=h) (k:=k) J;have z:=jh v;have B:((k:Int)<(i:Int)):=J;have y:=cS (n:=k) J;have E:=cS (n:=aq U.ay (h.take k)) J;cases hp:(l.kind==1)with
  |true=>have x:=sG (p:=U.ay) v hp;simp only[go_sem,Vh,H,D,u,N,m,z,eR,U.ps,B,y,E,hp,x,ai,aB];exact A
  |false=>have x:=lB (p:=U.ay) v hp;simp only[go_sem,Vh,H,D,u,N,m,z,eR,U.ps,B,y,E,hp,x,ai,aB];exact A
 have:k=i:=J;subst this;have F:((((aq U.ay (h.take k))%2:Nat):Int)==0)=dn h k:=by
  unfold dn;cases L:(aq U.ay (h.take k)%2==0)with
  |true=>simp at L |-;omega
  |false=>simp at L |-;omega
 simp only[go_sem,Vh,alV,H,D,u,N,m,fF,jG,pV,F,ai,aB]
def aCi(a b:U):aL S 85 [.agg (a.ps.map .p),.agg (b.ps.map .p)] (fv (decide (a.gate<b.gate)||(a.gate==b.gate&&decide (a.au<b.au)))):=by
 refine cG axA ?_;by_cases h:a.gate<b.gate
 .simp only[go_sem,S9,U.ps,h,ai,aB]
 cases H:(a.gate==b.gate)with
 |true=>simp only[go_sem,S9,U.ps,h,H,ai,aB]
 |false=>simp only[go_sem,S9,U.ps,h,H,ai,aB]
def dS(n i:Nat)(f:Bool):Nat:=if f then 2*i else 2*((i+n-1)%n)+1
def Y4(f:Int)(h:af)(i:Nat)(F:Bool)(hl:I h<=1000000)(y:i<I h):aL S 86 [eU f h,aI i,i_ F] (jr (dS (I h) i F)):=by
 refine cG aBd ?_;cases F with
 |true=>have e:IntKind.i64.wrap (2*(i:Int))=((2*i:Nat):Int):=wrap_small (n:=2*i) J;simp only[go_sem,Z7,e,dS,ai,aB]
 |false=>
  have j:IntKind.i64.wrap ((i:Int)+(I h:Int))=((i+I h:Nat):Int):=wrap_small (n:=i+I h) J;have v:IntKind.i64.wrap (((i+I h:Nat):Int)-1)=((i+I h-1:Nat):Int):=by have:(((i+I h:Nat):Int)-1)=((i+I h-1:Nat):Int):=J;rw[this];exact wrap_small J
  have E:=xw (i+I h-1) (I h);have x:=cT (i+I h-1) (show 0<I h by omega);have u:IntKind.i64.wrap (2*(((i+I h-1)%I h:Nat):Int))=((2*((i+I h-1)%I h):Nat):Int):=wrap_small (n:=2*((i+I h-1)%I h)) J;have m:=cS (n:=2*((i+I h-1)%I h)) J;have H:¬((I h:Int)=0):=J;simp only[go_sem,Z7,j,v,E,u,m,H,dS,ai,aB]
def AE(h:af)(i j:Nat):Bool:=j !=i&&(match h[j]? with|some l=>l.ak&&l.id==((h[i]?).map U.id).getD 0|none=>false)
def iI(h:af)(i:Nat):Nat:=((List.range (I h)).find? (AE h i)).getD i
def AB{p:Nat->Bool}:∀ {n k:Nat},k<n->(∀j,j<k->p j=false)->p k->(List.range n).find? p=some k:=by intro n k h f hp;exact List.find?_range_eq_some.2 ⟨hp,by simpa using h,λj H=>by simp[f j H]⟩
def Fa{p:Nat->Bool}(H:∀j,j<n->p j=false):(List.range n).find? p=none:=by rw[B6];intro x h;simp[H x (by simpa using h)]
def aCj(f:Int)(h:af)(i:Nat)(hl:I h<=1000000)(Cy:i<I h):aL S 87 [eU f h,aI i] (jr (iI h i)):=by
 obtain⟨T,Y⟩:=aP Cy;have L:=jh Y;have O:∀m l,h[m]?=some l->AE h i m=(m !=i&&(l.ak&&l.id==T.id)):=λm l X=>by simp[AE,X,Y]
 refine cG aor ?_;simp only[go_sem,afd,ai,aB];refine dt (λk j blk=>j 1=aI i/\j 2=.one (.bR 5568000000 1 0)/\blk 5568000000=(1,some (.var (oi f h)))/\j 5=aI k/\ ∀m,m<k->AE h i m=false) 0 (I h) (bZ _) ?_ ?_
 .simp only[go_sem];exact⟨rfl,λm X=>absurd X (o6 m)⟩
 rintro k j blk hk ⟨v,D,x,N,Q⟩
 by_cases A:k<I h
 .obtain⟨l,R⟩:=aP A;have F:=jh R;have B:((k:Int)<(I h:Int)):=J;have y:=cS (n:=k) J;have z:=O k l R;have step:AE h i k=false->∀m,m<k+1->AE h i m=false:=λX m hj=>by
   rcases rH.1 hj with Z|rfl
   .exact Q m Z
   exact X
  by_cases H:k=i
  .have u:((k:Int)!=(i:Int))=false:=by simp[H]
   have ae:=step (by rw[z];simp[H]);simp only[go_sem,Li,v,D,x,N,F,B,y,u,ai,aB];exact⟨ah,A,ae⟩
  have u:((k:Int)!=(i:Int)):=by simp;omega
  have M:(k !=i):=by simp[H]
  cases hp:(l.kind==2)with
  |false=>have ae:=step (by rw[z,M,U.ak,hp];rfl);simp only[go_sem,Li,v,D,x,N,F,L,eR,U.ps,B,y,u,hp,ai,aB];exact⟨ah,A,ae⟩
  |true=>
   cases E:(l.id==T.id)with
   |false=>have ae:=step (by rw[z,M,U.ak,hp,E];rfl);simp only[go_sem,Li,v,D,x,N,F,L,eR,U.ps,B,y,u,hp,E,ai,aB];exact⟨ah,A,ae⟩
   |true=>
    have hf:iI h i=k:=by unfold iI;rw[AB A Q (by rw[z,M,U.ak,hp,E];rfl)];rfl
    simp only[go_sem,Li,v,D,x,N,F,L,eR,U.ps,B,y,u,hp,E,hf,ai,aB];show vi _ _ _=true
    kernel_rfl
 have:k=I h:=J;subst this;have hf:iI h i=i:=by unfold iI;rw[Fa Q];rfl
 simp only[go_sem,Li,ahh,v,D,x,N,fF,hf,ai,aB]
abbrev B9(l:aG):PV:=.sl (l.map λn:Nat=>[.int .i64 (n:Int)])
def ayt(l:aG)(n f:Nat)(hl:I l<=1000000)(D:l[f]?=some n)(F:∀M,M<f->l[M]? ≠some n):aL S 88 [.one (.p (B9 l)),aI n] (jr f):=by
 have u:=(bt.1 D).1;refine cG afx ?_;simp only[go_sem,Yu,ai,aB];refine dt (λk j blk=>j 0=.one (.p (B9 l))/\j 1=aI n/\j 5=aI k) 0 f (bZ _) ?_ ?_
 .simp only[go_sem];rfl
 rintro k j blk N ⟨x,B,E⟩
 have z:((k:Int)<(I l:Int)):=J;have v:=cS (n:=k) J;obtain⟨m,H⟩:=aP (h:=l) (k:=k) J;have y:(l.map λn:Nat=>[PV.int .i64 (n:Int)])[k]?=some [.int .i64 (m:Int)]:=by simp[H]
 by_cases A:k<f
 .have L:((m:Int)==(n:Int))=false:=by
   have:m≠n:=λe=>F k A (by rw[H,e]);simp;omega
  simp only[go_sem,I3,x,B,E,z,v,y,L,ai,aB];exact A
 have:k=f:=J;subst this;have e:m=n:=by rw[H]at D;exact kA D
 subst e;simp only[go_sem,I3,x,B,E,z,v,y,ai,aB]
abbrev IJ(l:U):V:=.agg [.p (.int .i64 l.kind),.p (.int .i64 l.gate),.p (.int .i64 l.au),.p (.int .i64 l.id),.p (.int .i64 l.sign),.p (.bool l.over)]
def Na(a b:U):Bool:=decide (a.gate<b.gate)||(a.gate==b.gate&&decide (a.au<b.au))
def axe(a b:U):aL S 85 [IJ a,IJ b] (fv (Na a b)):=aCi a b
abbrev bQ(o:aG):dI:=o.map λn:Nat=>[PV.int .i64 (n:Int)]
def jy{o:aG}{k:Nat}(h:o[k]?=some n):(bQ o)[k]?=some [.int .i64 (n:Int)]:=by simp[h]
def Fg(h:af)(i j:Nat):Bool:=match h[j]?,h[i]? with
 |some a,some b=>Na a b
 |_,_=>false
def D3(h:af)(o:aG)(i:Nat):aG:=o.take (I (o.takeWhile (Fg h i)))++i::o.drop (I (o.takeWhile (Fg h i)))
def BZ(h:af)(o:aG)(i:Nat):aG:=match h[i]? with
 |some l=>if l.ay then D3 h o i else o
 |none=>o
def aA(h:af):aG:=(List.range (I h)).foldl (BZ h) []
def sX(h:af)(k:Nat):aG:=(List.range k).foldl (BZ h) []
theorem Jm(h:af)(k:Nat):sX h (k+1)=BZ h (sX h k) k:=by unfold sX;rw[nJ,A8];rfl
def aA1{o:aG}{i:Nat}(H:x∈BZ h o i):x∈o\/x=i:=by grind [BZ,D3]
def SH:∀ {k x:Nat},x∈sX h k->x<k:=by
 intro k
 induction k with
 |zero=>intro x H;simp[sX]at H
 |succ k f=>
  intro x H;rw[Jm]at H;rcases aA1 H with H|H
  .have:=f H;omega
  omega
def xo(h:af):∀k,I (sX h k)<=k:=by
 intro k
 induction k with
 |zero=>simp[sX]
 |succ k f=>grind [Jm,BZ,D3]
def HU(f:Nat)(o:aG)(v:V)(blk:aJ):Prop:=(o=[]/\v=.one (.p .nils))\/(o≠[]/\ ∃g,v=.one (.hsl f g 1 0 (I o))/\blk f=(g,some (.arr 3 1 (bQ o))))
def aCo{o:aG}{i ba:Nat}{blk:aJ}(L:HU 3200576640 o (j 3) blk)(B:j 4=aI i)(E:j 5=aI ba)(O:ba<=I o)(hl:I o<=1000000)
  (y:∀A z,A 1=j 1->A 4=j 4->z 3200000000=blk 3200000000->HU 3200576640 (o.take ba++i::o.drop ba) (A 3) z->Q .normal A z):
  W S .all Gv Q j blk:=by
 rcases L with⟨rfl,H⟩|⟨L,g,H,M⟩
 .have h:ba=0:=by simpa using O
  subst h;simp only[go_sem,Gv,H,B,E,ai,aB];refine⟨ah,y _ _ ?_ ?_ ?_ (.inr ⟨aE,(blk 3200576640).1+1,?_,?_⟩)⟩;all_goals simp only[go_sem]
 have N:∀n:Nat,n<=1000001->n*8<=140737488355328:=λn Y=>J;by_cases h:ba=0
 .subst h;have f:List.take (I o) (bQ o)=bQ o:=f_ aE;have u:=N (1+I o) J;simp only[go_sem,Gv,H,B,E,M,f,u,ai,aB];refine⟨ah,y _ _ ?_ ?_ ?_ (.inr ⟨aE,g+1,?_,?_⟩)⟩;all_goals simp only[go_sem]
  simp;omega
 have f:I (List.take ba (bQ o))=ba:=by simp;omega
 have m:List.take ba (List.take ba (bQ o))=List.take ba (bQ o):=by rw[Dn,Nat.min_self]
 have X:List.take (ba+1) (List.take ba (bQ o)++[[PV.int .i64 (i:Int)]])=List.take ba (bQ o)++[[PV.int .i64 (i:Int)]]:=f_ (by simp;omega);have F:List.take (I o-ba) (List.drop ba (bQ o))=List.drop ba (bQ o):=f_ aE;have v:I (List.drop ba (bQ o))=I o-ba:=aE;have T:I (List.take ba (bQ o)++[[PV.int .i64 (i:Int)]])=ba+1:=by simp;omega
 have u:=N ba J;have R:=N (ba+1) J;have x:=N (ba+1+(I o-ba)) J;have D:ba+(I o-ba)<=I o:=J;simp only[go_sem,Gv,H,B,E,M,O,f,h,u,R,x,m,X,F,v,T,D,ai,aB];refine⟨ah,y _ _ ?_ ?_ ?_ (.inr ⟨aE,g+1,?_,?_⟩)⟩;all_goals simp only[go_sem]
 .simp;omega
 simp
theorem avJ{α:Type}{p:α->Bool}{l:List α}{ba:Nat}(h:ba<=I l)(H:∀j x,j<ba->l[j]?=some x->p x)(f:∀x,l[ba]?=some x->p x=false):I (l.takeWhile p)=ba:=by
 induction l generalizing ba with
 |nil=>simp at h |-;omega
 |cons a l m=>
  cases ba with
  |zero=>simp_all
  |succ ba=>have:=H 0 a J rfl;simp[List.takeWhile,this,fP];rw[m (by simpa using h) (λj x u n=>H (j+1) x J (by grind)) (λx n=>f x (by grind))]
def ano{o:aG}{i:Nat}{T:U}{blk:aJ}(D:HU 3200576640 o (j 3) blk)(h1:j 1=.one (.bR 3200000000 1 0))(hB:blk 3200000000=(1,some (.var (oi f h))))(h4:j 4=aI i)(h5:j 5=aI 0)
  (yj:h[i]?=some T) (aw:∀x∈o,x<I h) (hl:I o<=1000000)
  (hq:∀A m,A 1=j 1->A 4=j 4->m 3200000000=blk 3200000000->HU 3200576640 (D3 h o i) (A 3) m->Q .normal A m):
  W S .all (.loop PW) (rM 2 (Bv S .all Gv Q)) j blk:=by
 have ji:=jh yj;refine dt (λk A m=>A 1=j 1/\A 4=j 4/\A 3=j 3/\m=blk/\A 5=aI k/\ ∀ab x,ab<k->o[ab]?=some x->Fg h i x) 0 (I o) (bZ _) ?_ ?_
 .exact⟨rfl,rfl,rfl,rfl,h5,λab x N=>absurd N (o6 ab)⟩
 rintro k A m hk ⟨L,u,v,rfl,M,hp⟩
 rw[h1]at L;rw[h4]at u;have fin:∀e:bJ,e 1=A 1->e 4=A 4->e 3=A 3->e 5=A 5->(∀x,o[k]?=some x->Fg h i x=false)->W S .all Gv Q e m:=by
  intro e e1 e4 e3 e5 kL;refine aCo (by rw[e3,v];exact D) (by rw[e4,u]) (by rw[e5,M]) hk hl ?_
  grind [D3,avJ]
 by_cases R:k<I o
 .obtain⟨x,z⟩:=aP R;obtain⟨Z,B⟩:=aP (aw x (a7 z));have l6:=jh B;have yn:=jy z;have aM:((k:Int)<(I o:Int)):=J;have E:Fg h i x=Na Z T:=by simp[Fg,B,yj]
  have X:=axe Z T;rcases D with⟨rfl,_⟩|⟨D,g,F,Y⟩
  .simp at R
  rw[F]at v;cases O:Na Z T with
  |true=>
   rw[O]at X;simp only[go_sem,PW,h1,F,h4,L,v,u,M,hB,Y,aM,yn,l6,ji,eR,U.ps,R,cS (n:=k) J,aku,fx X,ai,aB];refine⟨ah,λab y N H=>?_⟩;rcases rH.1 N with N|rfl
   .exact hp ab y N H
   rw[z]at H;cases H;rw[E,O]
  |false=>rw[O]at X;simp only[go_sem,PW,L,v,u,M,hB,Y,aM,yn,l6,ji,eR,U.ps,R,aku,fx X,ai,aB];refine⟨ah,fin _ ?_ ?_ ?_ ?_ (λy H=>by rw[z]at H;cases H;rw[E,O])⟩;all_goals simp only[go_sem,L,v,u,M]
 have:k=I o:=J;subst this;rcases D with⟨rfl,F⟩|⟨D,g,F,Y⟩
 all_goals
  rw[F]at v;simp only[go_sem,PW,L,v,u,M,fF,ai,aB];refine⟨ah,fin _ ?_ ?_ ?_ ?_ (λx z=>by simp at z)⟩;all_goals simp only[go_sem,L,v,u,M]
theorem aAg(h:af)(o:aG)(i:Nat):I (D3 h o i)=I o+1:=by grind [D3]
def Nh{blk:aJ}{id g len T:Nat}{E:dI}(h:blk id=(g,some (.arr T z E)))(hl:len=I E):lM blk (.one (.hsl id g z 0 len))=some (.one (.own T z E)):=by subst hl;simp only[lM,v_,qG,oV,mH,h,cJ,and_self,if_true,jZ];rfl
def Ur(o:aG):nm:=if o=[]then .p .nils else .own 3 1 (bQ o)
def aBJ(f:Int)(h:af)(hl:I h<=1000000):aL S 50 [eU f h] (.one (Ur (aA h))):=by
 refine cG aqU ?_;simp only[go_sem,aiW,ai,aB];refine dt (λk j blk=>j 1=.one (.bR 3200000000 1 0)/\blk 3200000000=(1,some (.var (oi f h)))/\j 4=aI k/\HU 3200576640 (sX h k) (j 3) blk) 0 (I h) (bZ _) ?_ ?_
 .simp only[go_sem];exact⟨rfl,.inl ⟨rfl,rfl⟩⟩
 rintro k j blk X ⟨y,z,v,m⟩
 have Z:=xo h k;by_cases A:k<I h
 .obtain⟨l,D⟩:=aP A;have L:=jh D;have E:((k:Int)<(I h:Int)):=J;have B:=cS (n:=k) J;have ae:=Jm h k;unfold BZ at ae;rw[D]at ae;cases hp:(l.kind==1)with
  |false=>
   have O:(l.kind !=1):=by simp[bne,hp]
   simp only[U.ay,hp]at ae;have ae:=ae;simp only[go_sem,NT,aa1,y,z,v,L,eR,U.ps,E,O,B,ae,A,ai,aB];rcases m with⟨e,H⟩|⟨m,g,H,u⟩
   .exact .inl ⟨e,by simp only[go_sem,H]⟩
   exact .inr ⟨m,g,by simp only[go_sem,H],by simp only[go_sem,u]⟩
  |true=>
   have O:(l.kind !=1)=false:=by simp[bne,hp]
   simp only[U.ay,hp]at ae;have ae:=ae;simp only[go_sem,NT,y,z,v,L,eR,U.ps,E,O,ai,aB];refine ano (f:=f) (o:=sX h k) ?_ ?_ ?_ ?_ ?_ D (λx R=>Nat.lt_trans (SH R) A) J ?_
   .rcases m with⟨e,H⟩|⟨m,g,H,u⟩
    .exact .inl ⟨e,by simp only[go_sem,H]⟩
    exact .inr ⟨m,g,by simp only[go_sem,H],by simp only[go_sem,u]⟩
   .simp only[go_sem,y]
   .simp only[go_sem,z]
   .simp only[go_sem,v]
   .rfl
   intro aH Y Q M F N;simp only[go_sem,y,v,z]at Q M F;simp only[go_sem,aa1,Q,M,F,B,ae,A];rcases N with⟨e,H⟩|⟨m,g,H,u⟩
   .exact .inl ⟨e,by simp only[go_sem,H]⟩
   exact .inr ⟨m,g,by simp only[go_sem,H],by simp only[go_sem,u]⟩
 have:k=I h:=J;subst this;have T:aA h=sX h (I h):=rfl;rw[<-T]at m;rcases m with⟨e,H⟩|⟨m,g,H,u⟩
 .simp only[go_sem,NT,YJ,y,z,H,v,fF,Ur,e,ai,aB]
 simp only[go_sem,NT,YJ,y,z,H,v,fF,Ur,m,ai,aB];exact Nh u aE
def iY(h:af)(ax:aG)(d:Nat):Nat:=
 if 2*I h<=d then
  if d%2=0 then dS (I h) (ax.getD (((d-2*I h)/2+1)%I ax) 0) (!dn h (ax.getD (((d-2*I h)/2+1)%I ax) 0))
  else dS (I h) (ax.getD ((d-2*I h)/2) 0) (dn h (ax.getD ((d-2*I h)/2) 0))
 else
  let f:=d%2==0
  let v:=if f then(d/2+1)%I h else d/2
  match h[v]? with
  |none=>0
  |some l=>if l.kind==2 then dS (I h) (iI h v) (f==(l.over==(l.sign==1)))
   else if dn h v==f then 2*I h+2*ax.idxOf v else 2*I h+2*((ax.idxOf v+I ax-1)%I ax)+1
def aiZ{i:Nat}(H:i<I h):iI h i<I h:=by
 unfold iI;cases f:(List.range (I h)).find? (AE h i)with
 |none=>exact H
 |some k=>
  have:=CU f
  simpa using this
def IT{i:Nat}{f:Bool}(h:i<n):dS n i f<2*n:=by unfold dS;have:=cT (i+n-1) (show 0<n by omega);split<;>omega
def Si{ax:aG}{d:Nat}(lY:∀x∈ax,x<I h)(hp:∀v l,h[v]?=some l->(l.kind==2)=false->v∈ax)(A:d<2*I h+2*I ax):iY h ax d<2*I h+2*I ax:=by
 have F:∀k,k<I ax->ax.getD k 0<I h:=λk H=>by obtain⟨x,m⟩:=aP H;rw[dD,m];exact lY x (a7 m)
 unfold iY;by_cases z:2*I h<=d
 .rw[aD z];have n:=cT ((d-2*I h)/2+1) (show 0<I ax by omega);by_cases j:d%2=0
  .rw[aD j];exact Cf (IT (F _ n)) J
  rw[aC j];exact Cf (IT (F _ J)) J
 rw[aC z];have u:0<I h:=J;have f:(if(d%2==0)=true then(d/2+1)%I h else d/2)<I h:=by
  split
  .exact cT _ u
  omega
 simp only;generalize(if(d%2==0)=true then(d/2+1)%I h else d/2)=v at f;obtain⟨l,hl⟩:=aP f;rw[hl];simp only;by_cases H:(l.kind==2)
 .rw[aD H];exact Cf (IT (aiZ f)) J
 rw[aC H];have y:=hp v l hl (by simpa using H);have B:ax.idxOf v<I ax:=La.2 y;have n:=cT (ax.idxOf v+I ax-1) (show 0<I ax by omega);split<;>omega
def atB{ax:aG}:∀j,j<ax.idxOf v->ax[j]? ≠some v:=by
 induction ax with
 |nil=>intro j h;simp at h
 |cons a ax f=>
  intro j h e;rw[List.idxOf_cons]at h;by_cases H:a=v
  .simp[H]at h
  have m:(a==v)=false:=by simpa using H
  rw[m]at h;cases j with
  |zero=>simp at e;exact H e
  |succ j=>exact f j (by simp at h;omega) (by simpa using e)
theorem al2{ax:aG}(h:v∈ax):ax[ax.idxOf v]?=some v:=by have hl:ax.idxOf v<I ax:=La.2 h;rw[tH hl,Wu hl]
def awL(f:Int)(h:af)(ax:aG)(d:Nat)(hl:I h<=1000000)(jt:I ax<=1000000)(lY:∀x∈ax,x<I h)(hp:∀v l,h[v]?=some l->(l.kind==2)=false->v∈ax)
  (hd:d<2*I h+2*I ax):aL S 51 [eU f h,.one (.p (B9 ax)),aI d] (jr (iY h ax d)):=by
 have A:IntKind.i64.wrap (2*(I h:Int))=((2*I h:Nat):Int):=wrap_small (n:=2*I h) J;unfold iY;by_cases ab:2*I h<=d
 .rw[aD ab];refine cG akd ?_;have u:((2*I h:Nat):Int)<=(d:Int):=J;have m2:IntKind.i64.wrap ((d:Int)-((2*I h:Nat):Int))=((d-2*I h:Nat):Int):=by
   have:((d:Int)-((2*I h:Nat):Int))=((d-2*I h:Nat):Int):=J;rw[this];exact wrap_small J
  have M:=wrap_small (n:=(d-2*I h)/2) J;have hm:=cT ((d-2*I h)/2+1) (show 0<I ax by omega);have Z:¬((I ax:Int)=0):=J;by_cases h2:d%2=0
  .rw[aD h2];have D:=cS (n:=(d-2*I h)/2) J;have ki:(((d%2:Nat):Int)==0):=by simp[h2]
   have z:=xw ((d-2*I h)/2+1) (I ax);obtain⟨v,H⟩:=aP hm;have rZ:ax.getD (((d-2*I h)/2+1)%I ax) 0=v:=by rw[dD,H];rfl
   rw[rZ];have Q:=lY v (a7 H);have F2:=jy H;have j:=M1 f h v hl J;have B:=Y4 f h v (!dn h v) hl Q;simp only[go_sem,i51,A,m2,M,D,z,u,ki,F2,Z,pV,mx,jG,CQ,Q5,fx j,pG B,ai,aB];exact aS
  rw[aC h2];have ki:(((d%2:Nat):Int)==0)=false:=by simp;omega
  obtain⟨v,H⟩:=aP (h:=ax) (k:=(d-2*I h)/2) J;have rZ:ax.getD ((d-2*I h)/2) 0=v:=by rw[dD,H];rfl
  rw[rZ];have Q:=lY v (a7 H);have F2:=jy H;have j:=M1 f h v hl J;have B:=Y4 f h v (dn h v) hl Q;simp only[go_sem,i51,A,m2,M,u,ki,F2,Z,pV,mx,jG,CQ,Q5,fx j,pG B,ai,aB];exact aS
 rw[aC ab];have u:¬(((2*I h:Nat):Int)<=(d:Int)):=J;have M:=wrap_small (n:=d/2) J;have L:¬((I h:Int)=0):=J;have Z:=cT (d/2+1) (show 0<I h by omega);have D:=cS (n:=d/2) J;have z:=xw (d/2+1) (I h);have body:∀v:Nat,v<I h->∀F:Bool,v=(if F then(d/2+1)%I h else d/2)->(d%2==0)=F->(((d%2:Nat):Int)==0)=F->aL S 51 [eU f h,.one (.p (B9 ax)),aI d] (jr ((match h[v]? with
   |none=>0
   |some l=>if l.kind==2 then dS (I h) (iI h v) (F==(l.over==(l.sign==1)))
    else if dn h v==F then 2*I h+2*ax.idxOf v else 2*I h+2*((ax.idxOf v+I ax-1)%I ax)+1:Nat):Int)):=by
  intro v H F N BG O;obtain⟨l,kr⟩:=aP H;have y:=jh kr;rw[kr];simp only;refine cG akd ?_;cases E:(l.kind==2)with
  |true=>
   have po:=aCj f h v hl H;have B:=Y4 f h (iI h v) (F==(l.over==(l.sign==1))) hl (aiZ H);cases F with
   |true=>have N:v=(d/2+1)%I h:=N;rw[N]at y po B |-;simp only[go_sem,i51,A,M,D,z,u,O,y,eR,U.ps,L,E,pV,mx,jG,aiM,Q5,pG po,pG B,ai,aB];exact aS
   |false=>have N:v=d/2:=N;rw[N]at y po B |-;simp only[go_sem,i51,A,M,D,z,u,O,y,eR,U.ps,L,E,pV,mx,jG,aiM,Q5,pG po,pG B,ai,aB];exact aS
  |false=>
   have gY:=hp v l kr E;have FX:ax.idxOf v<I ax:=La.2 gY;have m:=ayt ax v (ax.idxOf v) jt (al2 gY) atB;have j:=M1 f h v hl J;have X:¬((I ax:Int)=0):=J;have fj:=cT (ax.idxOf v+I ax-1) (show 0<I ax by omega);have n1:=rQ (a:=ax.idxOf v) J;have n2:=tm (a:=2*I h) (b:=2*ax.idxOf v) J;have Y:=tm (a:=ax.idxOf v) (b:=I ax) J;have n4:=Ig (a:=ax.idxOf v+I ax) J J;have T:=xw (ax.idxOf v+I ax-1) (I ax);have n6:=rQ (a:=(ax.idxOf v+I ax-1)%I ax) J;have n7:=tm (a:=2*I h) (b:=2*((ax.idxOf v+I ax-1)%I ax)) J;have n8:=cS (n:=2*I h+2*((ax.idxOf v+I ax-1)%I ax)) J;cases F with
   |true=>
    have N:v=(d/2+1)%I h:=N;cases R:dn h v with
    |true=>rw[R]at j;subst N;simp only[go_sem,i51,A,M,D,z,u,O,y,eR,U.ps,L,E,pV,mx,jG,GM,CQ,gr m,b_ j,n1,n2,Y,n4,T,n6,n7,n8,X,ai,aB]
    |false=>rw[R]at j;subst N;simp only[go_sem,i51,A,M,D,z,u,O,y,eR,U.ps,L,E,pV,mx,jG,GM,CQ,gr m,b_ j,n1,n2,Y,n4,T,n6,n7,n8,X,ai,aB]
   |false=>
    have N:v=d/2:=N;cases R:dn h v with
    |true=>rw[R]at j;subst N;simp only[go_sem,i51,A,M,D,z,u,O,y,eR,U.ps,L,E,pV,mx,jG,GM,CQ,gr m,b_ j,n1,n2,Y,n4,T,n6,n7,n8,X,ai,aB]
    |false=>rw[R]at j;subst N;simp only[go_sem,i51,A,M,D,z,u,O,y,eR,U.ps,L,E,pV,mx,jG,GM,CQ,gr m,b_ j,n1,n2,Y,n4,T,n6,n7,n8,X,ai,aB]
 have Q:(if(d%2==0)=true then(d/2+1)%I h else d/2)<I h:=by
  split
  .exact Z
  omega
 have:=body _ Q (d%2==0) rfl rfl (by cases hq:(d%2==0)<;>simp at hq |- <;>omega);exact this
abbrev iQ(o:gD):dI:=o.map λb:Bool=>[PV.bool b]
def tR{o:gD}{k:Nat}{b:Bool}(h:o[k]?=some b):(iQ o)[k]?=some [.bool b]:=by simp[h]
def Lh(o:gD)(k:Nat)(b:Bool):(iQ o).set k [.bool b]=iQ (o.set k b):=by simp[Ew]
def hJ(next:Nat->Nat):Nat->Nat->gD->aG×gD
 |0,_,seen=>([],seen)
 |k+1,x,seen=>if seen.getD x true then([],seen)else(x::(hJ next k (next x) (seen.set x true)).1,(hJ next k (next x) (seen.set x true)).2)
def AG(s:gD):Nat:=s.countP (λb=> !b)
def Mw{s:gD}(h:s[x]?=some false):AG (s.set x true)+1=AG s:=by grind [AG]
theorem aoE(next:Nat->Nat):∀(k x:Nat) (s:gD),(hJ next k x s).2.length=I s:=by
 intro k
 induction k with
 |zero=>intro x s;rfl
 |succ k f=>grind [hJ]
def xl(next:Nat->Nat)(st:List aG×gD)(d:Nat):List aG×gD:=if st.2.getD d true then st else(st.1++[(hJ next (I st.2+1) d st.2).1],(hJ next (I st.2+1) d st.2).2)
def ft(next:Nat->Nat)(N k:Nat):List aG×gD:=(List.range k).foldl (xl next) ([],List.replicate N false)
def gW(next:Nat->Nat)(N:Nat):List aG:=(ft next N N).1
theorem Ad(next:Nat->Nat)(N k:Nat):ft next N (k+1)=xl next (ft next N k) k:=by unfold ft;rw[nJ,A8];rfl
theorem Ie(next:Nat->Nat)(N:Nat):∀k,(ft next N k).2.length=N:=by
 intro k
 induction k with
 |zero=>simp[ft]
 |succ k f=>grind [Ad,xl,aoE]
def apQ(next:Nat->Nat)(N k:Nat)(h:1<=k)(j:1<=N):(ft next N k).1≠[]:=by
 induction k with
 |zero=>omega
 |succ k f=>
  rw[Ad];by_cases H:k=0
  .grind [ft,xl]
  have:=f J;unfold xl;split
  .exact this
  simp
def N0(next:Nat->Nat)(N:Nat):∀k,(ft next N k).1.length<=k:=by
 intro k
 induction k with
 |zero=>simp[ft]
 |succ k f=>grind [Ad,xl]
def J0(s:gD):AG s<=I s:=NY
def apv{ax:aG}(hl:I h<=1000000)(jt:I ax<=1000000)(lY:∀x∈ax,x<I h)(hp:∀v l,h[v]?=some l->(l.kind==2)=false->v∈ax):
  ∀(F x:Nat) (dU:gD) (w:aG) (j:bJ) (blk:aJ),j 1=.one (.bR 1664000000 1 0)->blk 1664000000=(1,some (.var (oi f h)))->
   j 4=.one (.hsl 1664128064 1 1 0 (I ax))->blk 1664128064=(1,some (.arr 3 1 (bQ ax)))->j 5=.one (.hsl 1664192512 1 1 0 (I dU))->blk 1664192512=(1,some (.arr 4 1 (iQ dU)))->
   HU 1664832192 w (j 7) blk->j 8=aI x->x<I dU->I dU=2*I h+2*I ax->AG dU<F->I w+AG dU<=5000000->
   (∀m A,m 1=j 1->m 3=j 3->m 4=j 4->m 5=j 5->m 6=j 6->A 1664000000=blk 1664000000->A 1664128064=blk 1664128064->A 1664896192=blk 1664896192->A 1664896128=blk 1664896128->
    A 1664192512=(1,some (.arr 4 1 (iQ (hJ (iY h ax) F x dU).2)))->HU 1664832192 (w++(hJ (iY h ax) F x dU).1) (m 7) A->Q .normal m A)->
   W S .all (.loop PY) (rM 2 Q) j blk:=by
 intro F
 induction F with
 |zero=>intro x dU w j blk _ _ _ _ _ _ _ _ _ _ ab;omega
 |succ F ih=>
  intro x dU w j blk z L y B u E ho h8 D hsl hu hw H;obtain⟨b,R⟩:=aP D;have mw:=tR R;have Cx:dU.getD x true=b:=by rw[dD,R];rfl
  unfold hJ at H;rw[Cx]at H;refine og ?_;cases b with
  |true=>
   simp only[go_sem,PY,u,E,h8,D,mw,ai,aB];refine H _ _ ?_ ?_ ?_ ?_ ?_ rfl rfl rfl rfl E ?_;all_goals simp only[go_sem]
   exact ho
  |false=>
   have HK:=Mw R;have pt:=awL f h ax x hl jt lY hp J;have nW:=Si (d:=x) lY hp J;have iE:=Lh dU x true;have nE:∀n:Nat,n<=5000001->n*8<=140737488355328:=λn hn=>J;have Kc:List.take (I ax) (bQ ax)=bQ ax:=f_ aE;rcases ho with⟨rfl,Z⟩|⟨MQ,g,Z,hC⟩
   .simp only[go_sem,PY,z,L,y,B,u,E,Z,h8,D,mw,iE,Kc,aeF,gr pt,ai,aB];refine ih (iY h ax x) (dU.set x true) [x] _ _ ?_ ?_ ?_ ?_ ?_ ?_ ?_ ?_ (by simpa [hsl]using nW) (by simpa using hsl) J (by simp;omega) ?_
    .simp only[go_sem,z]
    .simp only[go_sem,L]
    .simp only[go_sem,y]
    .simp only[go_sem,B]
    .simp only[go_sem,u,j7]
    .simp only[go_sem]
    .simp only[go_sem];exact .inr ⟨aE,_,rfl,rfl⟩
    .simp only[go_sem]
    intro m A Y q3 q4 q5 X M b2 T b4 N O;refine H m A ?_ ?_ ?_ ?_ ?_ ?_ ?_ ?_ ?_ N ?_
    .rw[Y];simp only[go_sem]
    .rw[q3];simp only[go_sem]
    .rw[q4];simp only[go_sem]
    .rw[q5];simp only[go_sem]
    .rw[X];simp only[go_sem]
    .rw[M];simp only[go_sem]
    .rw[b2];simp only[go_sem]
    .rw[T];simp only[go_sem]
    .rw[b4];simp only[go_sem]
    simpa using O
   have w7:List.take (I w) (bQ w)=bQ w:=f_ aE;have kN:=nE (I w+1) J;simp only[go_sem,PY,z,L,y,B,u,E,Z,h8,D,mw,iE,Kc,aeF,gr pt,hC,w7,kN,ai,aB];refine ih (iY h ax x) (dU.set x true) (w++[x]) _ _ ?_ ?_ ?_ ?_ ?_ ?_ ?_ ?_ (by simpa [hsl]using nW) (by simpa using hsl) J (by simp;omega) ?_
   .simp only[go_sem,z]
   .simp only[go_sem,L]
   .simp only[go_sem,y]
   .simp only[go_sem,B]
   .simp only[go_sem,u,j7]
   .simp only[go_sem]
   .simp only[go_sem];exact .inr ⟨aE,g+1,aE,by simp[bG]⟩
   .simp only[go_sem]
   intro m A Y q3 q4 q5 X M b2 T b4 N O;refine H m A ?_ ?_ ?_ ?_ ?_ ?_ ?_ ?_ ?_ N ?_
   .rw[Y];simp only[go_sem]
   .rw[q3];simp only[go_sem]
   .rw[q4];simp only[go_sem]
   .rw[q5];simp only[go_sem]
   .rw[X];simp only[go_sem]
   .rw[M];simp only[go_sem]
   .rw[b2];simp only[go_sem]
   .rw[T];simp only[go_sem]
   .rw[b4];simp only[go_sem]
   simpa using O
def aBK(f:Nat)(o:List aG)(v:V)(blk:aJ):Prop:=(o=[]/\v=.one (.p .nils))\/(o≠[]/\ ∃g,v=.one (.hsl f g 1 0 (I o))/\blk f=(g,some (.arr 25 1 (o.map λw=>[B9 w]))))
def axc(f:Int)(h:af)(hl:I h<=1000000)(D:aA h≠[])(hp:∀v l,h[v]?=some l->(l.kind==2)=false->v∈aA h):
  aL S 26 [eU f h] (.one (.own 25 1 ((gW (iY h (aA h)) (2*I h+2*I (aA h))).map λw=>[B9 w]))):=by
 have E:=aBJ f h hl;have lY:∀x∈aA h,x<I h:=λx ac=>SH ac;have jt:I (aA h)<=I h:=xo h (I h);unfold Ur at E;rw[aC D]at E;generalize aA h=ax at D hp E lY jt;have m1:=rQ (a:=I h) J;have m2:=rQ (a:=I ax) J;have m3:=tm (a:=2*I h) (b:=2*I ax) J;have mz:I (bQ ax)=I ax:=aE;have nE:2*I h+2*I ax<=140737488355328:=J;have zu:List.replicate (2*I h+2*I ax) [PV.bool false]=iQ (List.replicate (2*I h+2*I ax) false):=aE
 refine cG an0 ?_;have ab:∀(blk:aJ),fR blk [] 1664128064 ((RV.one (.own 3 1 (bQ ax))).iA (S.lone 1664128064))=some (.one (.hsl 1664128064 ((blk 1664128064).1+1) 1 0 (I ax)),[(1664128064,((blk 1664128064).1+1,some (.arr 3 1 (bQ ax))))]):=by intro blk;have jf:S.lone 1664128064=false:=ah;rw[jf];simp only[RV.iA,fR,true_or,if_true,lk,lU,mD,lR,iC,xg,ru,cg,ic]
 simp only[go_sem,afP,apF,cE E (ab _),m1,m2,m3,nE,zu,ai,aB];generalize hN:2*I h+2*I ax=N at nE;refine dt (λk j blk=>j 1=.one (.bR 1664000000 1 0)/\blk 1664000000=(1,some (.var (oi f h)))/\j 4=.one (.hsl 1664128064 1 1 0 (I ax))/\blk 1664128064=(1,some (.arr 3 1 (bQ ax)))/\
   j 5=.one (.hsl 1664192512 1 1 0 N)/\blk 1664192512=(1,some (.arr 4 1 (iQ (ft (iY h ax) N k).2)))/\j 6=aI k/\aBK 1664896192 (ft (iY h ax) N k).1 (j 3) blk) 0 N (bZ _) ?_ ?_
 .simp only[go_sem];exact⟨rfl,rfl,.inl ⟨rfl,rfl⟩⟩
 rintro k j blk hk ⟨M,X,B,R,z,A,T,m⟩
 have H:=Ie (iY h ax) N k;have HB:=N0 (iY h ax) N k;by_cases L:k<N
 .have aM:((k:Int)<(N:Int)):=J;have w1:=cS (n:=k) J;have ae:=Ad (iY h ax) N k;generalize dG:ft (iY h ax) N k=st at H ae m A HB;obtain⟨out,dU⟩:=st;simp only at H m A HB;obtain⟨b,hb⟩:=aP (h:=dU) (k:=k) J;have mw:=tR hb;unfold xl at ae;have Cx:dU.getD k true=b:=by rw[dD,hb];rfl
  simp only[Cx]at ae;cases b with
  |true=>simp only[go_sem,R2,VL,M,X,B,R,z,A,T,L,aM,mw,w1,ae,ai,aB];exact m
  |false=>
   have ae:ft (iY h ax) N (k+1)=(out++[(hJ (iY h ax) (N+1) k dU).1],(hJ (iY h ax) (N+1) k dU).2):=by rw[ae,H];rfl
   have BJ:=J0 dU;simp only[go_sem,R2,M,X,B,R,z,A,T,L,aM,mw,ai,aB];refine apv (f:=f) hl J lY hp (N+1) k dU [] _ _ ?_ ?_ ?_ ?_ ?_ ?_ ?_ ?_ J J J (by simp;omega) ?_
   .simp only[go_sem,M]
   .simp only[go_sem,X]
   .simp only[go_sem,B]
   .simp only[go_sem,R]
   .simp only[go_sem,z,H]
   .simp only[go_sem,A]
   .exact .inl ⟨rfl,by simp only[go_sem]⟩
   .simp only[go_sem]
   intro aH ao q1 Q q4 Y q6 b1 b2 b3 b4 F b6;simp only[go_sem,M,B,z,T]at q1 Q q4 Y q6;simp only[go_sem,X,R]at b1 b2 b3 b4;have Z:(hJ (iY h ax) (N+1) k dU).1≠[]:=by unfold hJ;rw[Cx];simp
   rw[fB]at b6;rcases b6 with⟨e,_⟩|⟨_,g,O,y⟩
   .exact(Z e).elim
   generalize hJ (iY h ax) (N+1) k dU=wf at ae Z F O y;obtain⟨w,jF⟩:=wf;simp only at ae Z F O y;have w7:List.take (I w) (bQ w)=bQ w:=f_ aE;rcases m with⟨rfl,u⟩|⟨m,go,u,hO⟩
   .rw[u]at Q;simp only[go_sem,WZ,VL,q1,Q,q4,Y,q6,b1,b2,F,O,y,w7,w1,ae,L,xI,c7,ai,aB];exact .inr ⟨aE,_,rfl,by simp[bG]⟩
   rw[u]at Q;have HJ:List.take (I out) (out.map λw=>[B9 w])=out.map λw=>[B9 w]:=f_ aE;have kN:(I out+1)*24<=140737488355328:=J;simp only[go_sem,WZ,VL,q1,Q,q4,Y,q6,b1,b2,b3,F,O,y,hO,w7,HJ,kN,w1,ae,L,xI,c7,ai,aB];exact .inr ⟨aE,go+1,aE,by simp[bG]⟩
 have:k=N:=J;subst this;have he:gW (iY h ax) k=(ft (iY h ax) k k).1:=rfl;rw[<-he]at m;rcases m with⟨e,u⟩|⟨m,g,u,y⟩
 .exact(apQ (iY h ax) k k (by have:=gy.2 D;omega) (by have:=gy.2 D;omega) e).elim
 simp only[go_sem,R2,aiv,u,z,T,fF,ai,aB];exact Nh y aE
abbrev Y1(l:U):eO:=[.p (.int .i64 l.kind),.p (.int .i64 l.gate),.p (.int .i64 l.au),.p (.int .i64 l.id),.p (.int .i64 l.sign),.p (.bool l.over)]
def kO(l o:U):Bool:=(o.kind==l.kind&&o.gate==l.gate)&&o.au==l.au
def kj(l o:U):Bool:=((o.kind==l.kind&&o.id==l.id)&&o.sign==l.sign)&& !(o.over==l.over)
def IZ(f:Int)(h:af)(l:U):Bool:= !(((((((l.id !=0||l.sign !=0)||l.over)||decide (l.gate<0))||decide (f<l.gate))||decide (l.au<1))||decide ((aq (td l.gate) h:Int)<l.au))||(((aq (kO l) h:Nat):Int)!=1))
def xG(h:af)(l:U):Bool:= !((((((l.gate !=0||l.au !=0)||(l.sign !=1&&l.sign != -1))||decide (l.id<1))||decide (((aq U.ak h/2:Nat):Int)<l.id))||(((aq (kj l) h:Nat):Int)!=1))||(((aq (pE l.id) h:Nat):Int)!=2))
def BP(f:Int)(h:af)(l:U):Bool:=if l.kind==1 then IZ f h l else if l.kind==2 then xG h l else false
def ay8{l:U}{g i:Nat}{blk:aJ}(hl:I h<=1000000)(h1:j 1=.one (.bR 1600000000 1 0))(hB:blk 1600000000=(1,some (.var (oi f h))))(h3:j 3=aI i)(h4:j 4=.one (.bR 1600256320 g 0))(hL:blk 1600256320=(g,some (.var (Y1 l))))
  (h5:j 5=aI 0) (h6:j 6=aI 0) (h7:j 7=aI 0)
  (hq:∀N ao,N 1=j 1->N 3=j 3->N 4=j 4->ao 1600000000=blk 1600000000->ao 1600256320=blk 1600256320->N 5=aI (aq (kO l) h)->N 6=aI (aq (kj l) h)->Q .normal N ao):
  W S .all (.loop vp) (rM 2 Q) j blk:=by
 refine dt (λk N ao=>N 1=.one (.bR 1600000000 1 0)/\ao 1600000000=(1,some (.var (oi f h)))/\N 3=aI i/\N 4=.one (.bR 1600256320 g 0)/\ao 1600256320=(g,some (.var (Y1 l)))/\
   N 5=aI (aq (kO l) (h.take k))/\N 6=aI (aq (kj l) (h.take k))/\N 7=aI k) 0 (I h) (bZ _) ?_ ?_
 .exact⟨h1,hB,h3,h4,hL,h5,h6,h7⟩
 rintro k N ao hk ⟨g1,D,O,M,qi,F,B,L⟩
 by_cases A:k<I h
 .obtain⟨o,H⟩:=aP A;have Y:=jh H;have X:((k:Int)<(I h:Int)):=J;have b5:=Bb (kO l) h k;have b6:=Bb (kj l) h k;have R:=cS (n:=k) J;have Z:=cS (n:=aq (kO l) (h.take k)) J;have T:=cS (n:=aq (kj l) (h.take k)) J;cases E:(o.kind==l.kind)with
  |true=>
   cases u:(o.gate==l.gate)with
   |true=>
    cases y:(o.au==l.au)with
    |true=>
     cases m:(o.id==l.id)with
     |true=>
      cases v:(o.sign==l.sign)with
      |true=>
       cases z:(o.over==l.over)with
       |true=>have x:=sG (p:=kO l) H (by simp only[kO,E,u,y,m,v,z];rfl);have c6:=lB (p:=kj l) H (by simp only[kj,E,u,y,m,v,z];rfl);simp only[go_sem,vp,g1,D,O,M,qi,F,B,L,Y,eR,U.ps,X,R,Z,T,E,u,y,m,v,z,x,c6,ai,aB];first|exact A|exact⟨A,rfl⟩|exact⟨A,rfl,rfl⟩
       |false=>have x:=sG (p:=kO l) H (by simp only[kO,E,u,y,m,v,z];rfl);have c6:=sG (p:=kj l) H (by simp only[kj,E,u,y,m,v,z];rfl);simp only[go_sem,vp,g1,D,O,M,qi,F,B,L,Y,eR,U.ps,X,R,Z,T,E,u,y,m,v,z,x,c6,ai,aB];first|exact A|exact⟨A,rfl⟩|exact⟨A,rfl,rfl⟩
      |false=>have x:=sG (p:=kO l) H (by simp only[kO,E,u,y,m,v];rfl);have c6:=lB (p:=kj l) H (by simp only[kj,E,u,y,m,v];rfl);simp only[go_sem,vp,g1,D,O,M,qi,F,B,L,Y,eR,U.ps,X,R,Z,T,E,u,y,m,v,x,c6,ai,aB];first|exact A|exact⟨A,rfl⟩|exact⟨A,rfl,rfl⟩
     |false=>have x:=sG (p:=kO l) H (by simp only[kO,E,u,y,m];rfl);have c6:=lB (p:=kj l) H (by simp only[kj,E,u,y,m];rfl);simp only[go_sem,vp,g1,D,O,M,qi,F,B,L,Y,eR,U.ps,X,R,Z,T,E,u,y,m,x,c6,ai,aB];first|exact A|exact⟨A,rfl⟩|exact⟨A,rfl,rfl⟩
    |false=>
     cases m:(o.id==l.id)with
     |true=>
      cases v:(o.sign==l.sign)with
      |true=>
       cases z:(o.over==l.over)with
       |true=>have x:=lB (p:=kO l) H (by simp only[kO,E,u,y,m,v,z];rfl);have c6:=lB (p:=kj l) H (by simp only[kj,E,u,y,m,v,z];rfl);simp only[go_sem,vp,g1,D,O,M,qi,F,B,L,Y,eR,U.ps,X,R,Z,T,E,u,y,m,v,z,x,c6,ai,aB];first|exact A|exact⟨A,rfl⟩|exact⟨A,rfl,rfl⟩
       |false=>have x:=lB (p:=kO l) H (by simp only[kO,E,u,y,m,v,z];rfl);have c6:=sG (p:=kj l) H (by simp only[kj,E,u,y,m,v,z];rfl);simp only[go_sem,vp,g1,D,O,M,qi,F,B,L,Y,eR,U.ps,X,R,Z,T,E,u,y,m,v,z,x,c6,ai,aB];first|exact A|exact⟨A,rfl⟩|exact⟨A,rfl,rfl⟩
      |false=>have x:=lB (p:=kO l) H (by simp only[kO,E,u,y,m,v];rfl);have c6:=lB (p:=kj l) H (by simp only[kj,E,u,y,m,v];rfl);simp only[go_sem,vp,g1,D,O,M,qi,F,B,L,Y,eR,U.ps,X,R,Z,T,E,u,y,m,v,x,c6,ai,aB];first|exact A|exact⟨A,rfl⟩|exact⟨A,rfl,rfl⟩
     |false=>have x:=lB (p:=kO l) H (by simp only[kO,E,u,y,m];rfl);have c6:=lB (p:=kj l) H (by simp only[kj,E,u,y,m];rfl);simp only[go_sem,vp,g1,D,O,M,qi,F,B,L,Y,eR,U.ps,X,R,Z,T,E,u,y,m,x,c6,ai,aB];first|exact A|exact⟨A,rfl⟩|exact⟨A,rfl,rfl⟩
   |false=>
    cases m:(o.id==l.id)with
    |true=>
     cases v:(o.sign==l.sign)with
     |true=>
      cases z:(o.over==l.over)with
      |true=>have x:=lB (p:=kO l) H (by simp only[kO,E,u,m,v,z];rfl);have c6:=lB (p:=kj l) H (by simp only[kj,E,u,m,v,z];rfl);simp only[go_sem,vp,g1,D,O,M,qi,F,B,L,Y,eR,U.ps,X,R,Z,T,E,u,m,v,z,x,c6,ai,aB];first|exact A|exact⟨A,rfl⟩|exact⟨A,rfl,rfl⟩
      |false=>have x:=lB (p:=kO l) H (by simp only[kO,E,u,m,v,z];rfl);have c6:=sG (p:=kj l) H (by simp only[kj,E,u,m,v,z];rfl);simp only[go_sem,vp,g1,D,O,M,qi,F,B,L,Y,eR,U.ps,X,R,Z,T,E,u,m,v,z,x,c6,ai,aB];first|exact A|exact⟨A,rfl⟩|exact⟨A,rfl,rfl⟩
     |false=>have x:=lB (p:=kO l) H (by simp only[kO,E,u,m,v];rfl);have c6:=lB (p:=kj l) H (by simp only[kj,E,u,m,v];rfl);simp only[go_sem,vp,g1,D,O,M,qi,F,B,L,Y,eR,U.ps,X,R,Z,T,E,u,m,v,x,c6,ai,aB];first|exact A|exact⟨A,rfl⟩|exact⟨A,rfl,rfl⟩
    |false=>have x:=lB (p:=kO l) H (by simp only[kO,E,u,m];rfl);have c6:=lB (p:=kj l) H (by simp only[kj,E,u,m];rfl);simp only[go_sem,vp,g1,D,O,M,qi,F,B,L,Y,eR,U.ps,X,R,Z,T,E,u,m,x,c6,ai,aB];first|exact A|exact⟨A,rfl⟩|exact⟨A,rfl,rfl⟩
  |false=>have x:=lB (p:=kO l) H (by simp only[kO,E];rfl);have c6:=lB (p:=kj l) H (by simp only[kj,E];rfl);simp only[go_sem,vp,g1,D,O,M,qi,F,B,L,Y,eR,U.ps,X,R,Z,T,E,x,c6,ai,aB];first|exact A|exact⟨A,rfl⟩|exact⟨A,rfl,rfl⟩
 have:k=I h:=J;subst this;rw[jZ]at F B;simp only[go_sem,vp,g1,D,L,fF,ai,aB];refine hq _ _ ?_ ?_ ?_ ?_ ?_ ?_ ?_;all_goals simp only[go_sem,g1,D,O,M,qi,F,B,h1,hB,h3,h4,hL]
def av0{l:U}{g i:Nat}{blk:aJ}(hl:I h<=1000000)(z:j 1=.one (.bR 1600000000 1 0))(M:blk 1600000000=(1,some (.var (oi f h))))(x:j 3=aI i)(F:j 4=.one (.bR 1600256320 g 0))(N:blk 1600256320=(g,some (.var (Y1 l))))
  (L:j 5=aI (aq (kO l) h)) (D:j 6=aI (aq (kj l) h))
  (y:BP f h l->∀A,A 1=j 1->A 3=j 3->Q .normal A blk) (H:BP f h l=false->∀A,A 2=.one (.p (.bool false))->Q .ret A blk):
  W S .all abd Q j blk:=by
 have m:=awW f h hl l.gate;have u:=aaF f h hl;have v:=ase f h hl l.id;have O:=vo U.ak h;have B:=wrap_small (n:=aq U.ak h/2) J;simp only[go_sem,abd,z,M,x,F,N,L,D,ajq,zT,akY,pG m,pG u,pG v,mx,jG,B,bne,ai,aB];repeat' ((first|apply adt|apply akt|apply amt|apply alk|apply Xo|apply amB)<;>intro E<;>simp only[go_sem, *,z,M,x,F,N,L,D,ajq,zT,akY,pG m,pG u,pG v,mx,jG,B,bne,ai,aB])
 all_goals try refine⟨ah,?_⟩
 all_goals try(refine Xo (λE=>?_) (λE=>?_)<;>simp only[go_sem, *,-y,-H,ai,aB])
 all_goals
  simp only[BP,IZ,xG, *,bne,Bool.or_true,aar,Bool.true_or,DC,yI,if_true,if_false,Ac,E5,Ey,Q6,IM,EG,fE,Bool.true_eq_false,true_implies,false_implies,forall_const]at y H;first|refine H _ ?_ |refine y _ ?_ ?_
  all_goals simp only[go_sem,z,x]
def yD(f:Int)(h:af):Bool:=h.all (BP f h)
def ayF(f:Int)(h:af)(hl:I h<=1000000):aL S 25 [eU f h] (fv (yD f h)):=by
 refine cG aoc ?_;simp only[go_sem,ahw,ai,aB];refine dt (λk j blk=>j 1=.one (.bR 1600000000 1 0)/\blk 1600000000=(1,some (.var (oi f h)))/\j 3=aI k/\ ∀y l,y<k->h[y]?=some l->BP f h l) 0 (I h) (bZ _) ?_ ?_
 .simp only[go_sem];exact⟨rfl,λy l ab=>absurd ab (o6 y)⟩
 rintro k j blk hk ⟨m,v,u,F⟩
 by_cases E:k<I h
 .obtain⟨l,D⟩:=aP E;have hi:=jh D;have X:((k:Int)<(I h:Int)):=J;have R:=cS (n:=k) J;simp only[go_sem,acw,m,v,u,hi,eR,U.ps,X,ai,aB];refine ay8 (f:=f) (l:=l) (g:=(blk 1600256320).1+1) (i:=k) hl ?_ ?_ ?_ ?_ ?_ ?_ ?_ ?_ ?_
  .simp only[go_sem,m]
  .simp only[go_sem,v]
  .simp only[go_sem,u]
  .simp only[go_sem]
  .simp only[go_sem]
  .simp only[go_sem]
  .simp only[go_sem]
  .simp only[go_sem]
  intro aH ao Q A L B M q5 Y;simp only[go_sem,m,u]at Q A L;simp only[go_sem,v]at B M;simp only[go_sem];refine av0 (f:=f) (l:=l) (i:=k) hl Q B A L M q5 Y ?_ ?_
  .intro T dM N O;rw[Q]at N;rw[A]at O;simp only[go_sem,ahW,N,B,O,R,ai,aB];refine⟨E,λy l' H z=>?_⟩;rcases rH.1 H with H|rfl
   .exact F y l' H z
   rw[D]at z;cases z;exact T
  intro ya dM Z;have hf:yD f h=false:=by unfold yD;rw[VT];exact⟨l,a7 D,by simp[ya]⟩
  simp only[go_sem,Z,hf,ai,aB]
 have:k=I h:=J;subst this;have hf:yD f h:=by unfold yD;rw[j4];intro x hx;obtain⟨y,H,rfl⟩:=List.getElem_of_mem hx;exact F y _ H aE
 simp only[go_sem,acw,ags,m,v,u,fF,hf,ai,aB]
def aBi{o:aG}{i:Nat}:x∈D3 h o i↔x∈o\/x=i:=by
 unfold D3;generalize(o.takeWhile (Fg h i)).length=ba;constructor
 .intro H;rcases gn.1 H with H|H
  .exact .inl (za H)
  rcases c7.1 H with H|H
  .exact .inr H
  exact .inl (yP H)
 rintro(H|rfl)
 .rw[<-jS ba o]at H;rcases gn.1 H with H|H
  .exact gn.2 (.inl H)
  exact gn.2 (.inr (c7.2 (.inr H)))
 simp
def akm:∀ {k x:Nat},k<=I h->(x∈sX h k↔x<k/\ ∃l,h[x]?=some l/\l.ay):=by
 intro k
 induction k with
 |zero=>intro x _;simp[sX]
 |succ k j=>
  intro x v;rw[Jm];obtain⟨l,hl⟩:=aP (h:=h) (k:=k) J;have j:=j (x:=x) J;unfold BZ;rw[hl];simp only;by_cases hp:l.ay
  .rw[aD hp,aBi,j];constructor
   .rintro (⟨f,H⟩|rfl)
    .exact⟨J,H⟩
    exact⟨J,l,hl,hp⟩
   rintro⟨f,H⟩
   rcases rH.1 f with u|rfl
   .exact .inl ⟨u,H⟩
   exact .inr rfl
  rw[aC hp,j];constructor
  .rintro ⟨f,H⟩;exact⟨J,H⟩
  rintro⟨f,m,n,Q⟩
  rcases rH.1 f with u|rfl
  .exact⟨u,m,n,Q⟩
  rw[hl]at n;cases n;exact(hp Q).elim
def sB:x∈aA h↔ ∃l,h[x]?=some l/\l.ay:=by
 have:=akm (h:=h) (k:=I h) (x:=x) (cJ _);have e:aA h=sX h (I h):=rfl;rw[e,this];constructor
 .rintro ⟨_,H⟩;exact H
 rintro⟨l,H,f⟩;exact⟨(bt.1 H).1,l,H,f⟩
def acM(n:yD f h){l:U}(j:h[v]?=some l):l.ay\/l.ak:=by
 have:=(j4.1 n) l (a7 j);unfold BP at this;unfold U.ay U.ak;cases H:(l.kind==1)with
 |true=>exact .inl rfl
 |false=>
  cases m:(l.kind==2)with
  |true=>exact .inr rfl
  |false=>rw[H,m]at this;simp at this
def fW(h:af):Nat:=I (gW (iY h (aA h)) (2*I h+2*I (aA h)))
def oa(f:Int)(h:af):Bool:=(match h[0]? with|some l=>l.kind==1|none=>true)&&(aq U.ay h%2==0)&&yD f h&&(fW h==aq U.ay h+aq U.ak h/2+2)
def dk(f:Int)(h:af):Int:=if 400<I h\/200<aq U.ak h then 7 else if f<0\/40<f then 2 else if h=[]then 0 else if oa f h then 0 else 3
def ajj(f:Int)(h:af)(hl:I h<=1000000):aL S 9 [eU f h] (jr (dk f h)):=by
 have m:=aaF f h hl;have y:=asx f h hl;have x:=ayF f h hl;have Q:=avd f h hl;have ao:=vo U.ak h;have ji:=vo U.ay h;refine cG aAX ?_;unfold dk;by_cases X:400<I h
 .have L:(400:Int)<(I h:Int):=J;simp only[go_sem,i9,X,L,ai,aB]
 have L:¬(400:Int)<(I h:Int):=J;by_cases O:200<aq U.ak h
 .have A:(200:Int)<(aq U.ak h:Int):=J;simp only[go_sem,i9,X,L,O,A,zT,gr m,ai,aB]
 have A:¬(200:Int)<(aq U.ak h:Int):=J;by_cases B:f<0
 .simp only[go_sem,i9,X,L,O,A,B,zT,gr m,ai,aB]
 by_cases F:40<f
 .simp only[go_sem,i9,X,L,O,A,B,F,zT,gr m,ai,aB]
 have ab:¬(400<I h\/200<aq U.ak h):=J;have ag:¬(f<0\/40<f):=J;rw[aC ab,aC ag];by_cases he:h=[]
 .subst he;have hz:(((0:Nat):Int)==0):=aa;have ad:¬((400:Int)<((0:Nat):Int)):=aa;have ac:aL S 23 [.agg [.p (.int .i64 f),.p (.sl [])]] (jr (aq U.ak [])):=m;simp only[go_sem,i9,ad,A,B,F,zT,gr ac,hz,ai,aB]
 have H:0<I h:=gy.2 he;obtain⟨Y,E⟩:=aP H;have R:=jh E;have T:(((I h:Nat):Int)==0)=false:=by simp;omega
 rw[aC he];generalize j:(if oa f h=true then(0:Int)else 3)=r;cases c1:(Y.kind==1)with
 |false=>
  have n:(Y.kind !=1):=by simp[bne,c1]
  have u:oa f h=false:=by simp only[oa,E,c1];rfl
  rw[u]at j;have j:(3:Int)=r:=j;subst j;simp only[go_sem,i9,L,A,B,F,zT,gr m,T,L7,gr y,R,eR,U.ps,n,H,ai,aB];exact aS
 |true=>
  have n:(Y.kind !=1)=false:=by simp[bne,c1]
  cases N:(aq U.ay h%2==0)with
  |false=>
   have z:(((aq U.ay h%2:Nat):Int)!=0):=by simp at N |-;omega
   have u:oa f h=false:=by simp only[oa,E,c1,N];rfl
   rw[u]at j;have j:(3:Int)=r:=j;subst j;simp only[go_sem,i9,L,A,B,F,zT,gr m,T,L7,gr y,R,eR,U.ps,n,pV,jG,z,H,ai,aB];exact aS
  |true=>
   have z:(((aq U.ay h%2:Nat):Int)!=0)=false:=by simp at N |-;omega
   cases c3:yD f h with
   |false=>
    rw[c3]at x;have u:oa f h=false:=by simp only[oa,E,c1,N,c3];rfl
    rw[u]at j;have j:(3:Int)=r:=j;subst j;simp only[go_sem,i9,L,A,B,F,zT,gr m,T,L7,gr y,R,eR,U.ps,n,pV,jG,z,Zk,fx x,H,ai,aB];exact aS
   |true=>
    rw[c3]at x;have aO:aA h≠[]:=λe=>by have:(0:Nat)∈aA h:=sB.2 ⟨Y,E,c1⟩;rw[e]at this;cases this
    have hp:∀v l,h[v]?=some l->(l.kind==2)=false->v∈aA h:=λv l u O=>by
     rcases acM c3 u with am|am
     .exact sB.2 ⟨l,u,am⟩
     unfold U.ak at am;rw[O]at am;cases am
    have pw:=axc f h hl aO hp;have Z:fW h=I (gW (iY h (aA h)) (2*I h+2*I (aA h))):=rfl;have tM:=N0 (iY h (aA h)) (2*I h+2*I (aA h)) (2*I h+2*I (aA h));generalize hW:gW (iY h (aA h)) (2*I h+2*I (aA h))=M at pw tM Z;have a1:=tm (a:=aq U.ay h) (b:=aq U.ak h/2) J;have a2:IntKind.i64.wrap (((aq U.ay h+aq U.ak h/2:Nat):Int)+2)=((aq U.ay h+aq U.ak h/2+2:Nat):Int):=tm (a:=aq U.ay h+aq U.ak h/2) (b:=2) J;have jf:S.lone 576513152=false:=ah
    have wU:∀(blk:aJ),fR blk [] 576513152 ((RV.one (.own 25 1 (M.map λw=>[B9 w]))).iA (S.lone 576513152))=some (.one (.hsl 576513152 ((blk 576513152).1+1) 1 0 (I M)),[(576513152,((blk 576513152).1+1,some (.arr 25 1 (M.map λw=>[B9 w]))))]):=by intro blk;rw[jf];simp only[RV.iA,fR,true_or,if_true,lk,lU,mD,lR,iC,xg,ru,cg,ic]
    cases c4:(I M==aq U.ay h+aq U.ak h/2+2)with
    |false=>
     have D:(((I M:Nat):Int)!=((aq U.ay h+aq U.ak h/2+2:Nat):Int)):=by simp at c4 |-;omega
     have u:oa f h=false:=by simp only[oa,E,c1,N,c3,Z,c4];rfl
     rw[u]at j;have j:(3:Int)=r:=j;subst j;simp only[go_sem,i9,L,A,B,F,zT,gr m,T,L7,gr y,R,eR,U.ps,n,pV,jG,z,Zk,fx x,afL,oT pw (wU _),aeB,pG Q,a1,a2,D,H,ai,aB];exact aS
    |true=>
     have D:(((I M:Nat):Int)!=((aq U.ay h+aq U.ak h/2+2:Nat):Int))=false:=by simp at c4 |-;omega
     have u:oa f h:=by simp only[oa,E,c1,N,c3,Z,c4];rfl
     rw[u]at j;have j:(0:Int)=r:=j;subst j;simp only[go_sem,i9,L,A,B,F,zT,gr m,T,L7,gr y,R,eR,U.ps,n,pV,jG,z,Zk,fx x,afL,oT pw (wU _),aeB,pG Q,a1,a2,D,H,ai,aB];exact aS
def eo(f:Int)(l:U):Bool:=if l.kind==1 then(((decide (l.gate<0)||decide (f<l.gate))||l.id !=0)||l.sign !=0)||l.over else if l.kind==2 then(l.gate !=0||l.au !=0)||(l.sign !=1&&l.sign != -1)else true
def anw(f:Int)(l:U)(B X x x4 y z:PV):aL S 123 [IJ l,.one (.p (.box [.box [.int .i64 f,B,X,x,x4,y,z]]))] (fv (eo f l)):=by
 refine cG avF ?_;cases k1:(l.kind==1)with
 |true=>
  cases A:(decide (l.gate<0))with
  |true=>
   have u:(l.gate<0):=Dp A;have h:eo f l:=by simp only[eo,k1,A];rfl
   simp only[go_sem,yN,k1,u,h,ai,aB];exact aS
  |false=>
   cases j:(decide (f<l.gate))with
   |true=>
    have u:¬(l.gate<0):=xP A;have E:(f<l.gate):=Dp j;have h:eo f l:=by simp only[eo,k1,A,j];rfl
    simp only[go_sem,yN,k1,u,E,h,ai,aB];exact aS
   |false=>
    cases m:(l.id !=0)with
    |true=>
     have u:¬(l.gate<0):=xP A;have E:¬(f<l.gate):=xP j;have h:eo f l:=by simp only[eo,k1,A,j,m];rfl
     simp only[go_sem,yN,k1,u,E,m,h,ai,aB];exact aS
    |false=>
     cases n:(l.sign !=0)with
     |true=>
      have u:¬(l.gate<0):=xP A;have E:¬(f<l.gate):=xP j;have h:eo f l:=by simp only[eo,k1,A,j,m,n];rfl
      simp only[go_sem,yN,k1,u,E,m,n,h,ai,aB];exact aS
     |false=>
      cases v:(l.over)with
      |true=>
       have u:¬(l.gate<0):=xP A;have E:¬(f<l.gate):=xP j;have h:eo f l:=by simp only[eo,k1,A,j,m,n,v];rfl
       simp only[go_sem,yN,k1,u,E,m,n,v,h,ai,aB];exact aS
      |false=>
       have u:¬(l.gate<0):=xP A;have E:¬(f<l.gate):=xP j;have h:eo f l=false:=by simp only[eo,k1,A,j,m,n,v];rfl
       simp only[go_sem,yN,k1,u,E,m,n,v,h,ai,aB];exact aS
 |false=>
  cases k2:(l.kind==2)with
  |true=>
   cases A:(l.gate !=0)with
   |true=>
    have h:eo f l:=by simp only[eo,k1,k2,A];rfl
    simp only[go_sem,yN,k1,k2,A,h,ai,aB]
   |false=>
    cases j:(l.au !=0)with
    |true=>
     have h:eo f l:=by simp only[eo,k1,k2,A,j];rfl
     simp only[go_sem,yN,k1,k2,A,j,h,ai,aB]
    |false=>
     cases m:(l.sign !=1)with
     |true=>
      cases n:(l.sign != -1)with
      |true=>
       have h:eo f l:=by simp only[eo,k1,k2,A,j,m,n];rfl
       simp only[go_sem,yN,k1,k2,A,j,m,n,h,ai,aB]
      |false=>
       have h:eo f l=false:=by simp only[eo,k1,k2,A,j,m,n];rfl
       simp only[go_sem,yN,k1,k2,A,j,m,n,h,ai,aB]
     |false=>
      have h:eo f l=false:=by simp only[eo,k1,k2,A,j,m];rfl
      simp only[go_sem,yN,k1,k2,A,j,m,h,ai,aB]
  |false=>
   have h:eo f l:=by simp only[eo,k1,k2];rfl
   simp only[go_sem,yN,k1,k2,h,ai,aB]
abbrev SJ(f:Int)(x1 x2 x3 x4 x5 x6:PV):PV:=.fn 123 [] [.box [.box [.int .i64 f,x1,x2,x3,x4,x5,x6]]]
def at4(f:Int)(h:af)(D X x x4 z B:PV)(hl:I h<=1000000)(u:D.norm=D/\X.norm=X/\x.norm=x/\x4.norm=x4/\z.norm=z/\B.norm=B):
  ∃k:Int,(0<=k↔h.any (eo f)=true)/\aL S 149 [.one (.p (gC h)),.one (.p (SJ f D X x x4 z B))] (jr k):=by
 have M:∀r:Int,(∀(k:Nat) l,h[k]?=some l->eo f l->(∀(v:Nat) m,v<k->h[v]?=some m->eo f m=false)->r=k)->((∀(v:Nat) m,h[v]?=some m->eo f m=false)->r= -1)->
   aL S 149 [.one (.p (gC h)),.one (.p (SJ f D X x x4 z B))] (jr r):=by
  intro r kN uN;refine cG axn ?_;simp only[go_sem,ahi,ai,aB];refine dt (λk j blk=>j 0=.one (.p (gC h))/\j 1=.one (.p (SJ f D X x x4 z B))/\j 7=aI (I h)/\j 8=aI k/\ ∀v m,v<k->h[v]?=some m->eo f m=false) 0 (I h) (bZ _) ?_ ?_
  .simp only[go_sem];exact⟨rfl,λv m E=>absurd E (o6 v)⟩
  rintro k j blk Y ⟨R,y,L,N,u⟩
  by_cases T:k<I h
  .obtain⟨l,F⟩:=aP T;have hi:=jh F;have Z:((k:Int)<(I h:Int)):=J;have w1:=cS (n:=k) J;have pb:=anw f l D X x x4 z B;cases H:eo f l with
   |true=>rw[H]at pb;have O:=kN k l F H u;subst O;simp only[go_sem,SO,R,y,L,N,hi,eR,U.ps,Z,alm,b_ pb,ai,aB]
   |false=>
    rw[H]at pb;simp only[go_sem,SO,R,y,L,N,hi,eR,U.ps,Z,w1,alm,b_ pb,ai,aB];refine⟨T,λv m Q A=>?_⟩;rcases rH.1 Q with Q|rfl
    .exact u v m Q A
    rw[F]at A;cases A;exact H
  have:k=I h:=J;subst this;have O:=uN λv m A=>u v m (bt.1 A).1 A;subst O;simp only[go_sem,SO,amo,L,N,fF,ai,aB]
 cases ha:h.any (eo f)with
 |true=>
  have hx:h.findIdx (eo f)<I h:=ajr (by simpa using ha);refine⟨(h.findIdx (eo f):Nat),⟨λ_=>rfl,λ_=>J⟩,M _ ?_ ?_⟩
  .intro k l F H u;have Y:=(bt.1 F).1;have y:eo f h[h.findIdx (eo f)]:=List.findIdx_getElem;rcases Jl (h.findIdx (eo f)) k with E|E|E
   .have:=u _ _ E (tH hx);rw[y]at this;cases this
   .rw[E]
   have:=List.not_of_lt_findIdx E;have e:h[k]=l:=by rw[tH Y]at F;exact kA F
   rw[e,H]at this;simp at this
  intro u;have y:eo f h[h.findIdx (eo f)]:=List.findIdx_getElem;have:=u _ _ (tH hx);rw[y]at this;cases this
 |false=>refine⟨-1,⟨λE=>J,λE=>by cases E⟩,M _ ?_ (λ_=>rfl)⟩;intro k l F H _;have:=FM.1 ha l (a7 F);exact(this H).elim
def asZ(f:Int)(h:af)(j x m x4 n X:PV)(hl:I h<=1000000)(z:j.norm=j/\x.norm=x/\m.norm=m/\x4.norm=x4/\n.norm=n/\X.norm=X):
  aL S 122 [.one (.p (gC h)),.one (.p (SJ f j x m x4 n X))] (fv (h.any (eo f))):=by
 obtain⟨k,v,y⟩:=at4 f h j x m x4 n X hl z;refine cG av9 ?_;cases H:h.any (eo f)with
 |true=>have u:=v.2 H;simp only[go_sem,YP,ahO,gr y,u,ai,aB]
 |false=>
  have u:¬0<=k:=λA=>by rw[v.1 A]at H;cases H
  simp only[go_sem,YP,ahO,gr y,u,ai,aB]
abbrev Nu(f:Int)(ls:af)(x2 x3 x4 x5 x6:PV):PV:=.box [.int .i64 f,gC ls,x2,x3,x4,x5,x6]
def azZ(f:Int)(h:af)(x j x4 m X:PV)(hl:I h<=1000000)(H:x.norm=x/\j.norm=j/\x4.norm=x4/\m.norm=m/\X.norm=X):
  aL S 80 [.one (.p (Nu f h x j x4 m X))] (fv (!h.any (eo f))):=by
 have pc:=asZ f h (gC h) x j x4 m X hl ⟨rfl,H.1,H.2.1,H.2.2.1,H.2.2.2.1,H.2.2.2.2⟩;refine cG aB9 ?_;simp only[go_sem,aji,aAO,b_ pc,H.1,H.2.1,H.2.2.1,H.2.2.2.1,H.2.2.2.2,ai,aB]
def az9(f:Int)(h:af)(L:U)(x u x4 v X:PV)(hl:I h<=1000000)(m:h[0]?=some L):
  aL S 81 [.one (.p (Nu f h x u x4 v X))] (fv (L.kind==1&&aq U.ay h%2==0)):=by
 have n:=abY f h hl;have j:=jh m;refine cG auY ?_;have E:((((aq U.ay h)%2:Nat):Int)==0)=(aq U.ay h%2==0):=by
  cases y:(aq U.ay h%2==0)with
  |true=>simp at y |-;omega
  |false=>simp at y |-;omega
 cases H:(L.kind==1)with
 |true=>simp only[go_sem,Z0,j,eR,U.ps,H,Y0,gr n,pV,jG,E,ai,aB]
 |false=>simp only[go_sem,Z0,j,eR,U.ps,H,ai,aB]
def jq(g:Nat)(l:U):Bool:=l.ay&&l.gate==(g:Int)
abbrev aV(ls:af)(g:Nat):Nat:=aq (jq g) ls
def s7(h:af)(F k:Nat):aG:=(List.range (F+1)).map λg=>aV (h.take k) g
def gK(h:af)(F:Nat):aG:=(List.range (F+1)).map (aV h)
def alN{k G:Nat}(H:G<=F):(s7 h F k)[G]?=some (aV (h.take k) G):=by simp[s7,tX (show G<F+1 by omega)]
def XL(h:af)(F:Nat):s7 h F (I h)=gK h F:=by simp[s7,gK]
def W9(h:af)(F:Nat):s7 h F 0=List.replicate (F+1) 0:=by apply xR<;>simp[s7,aq]
def aiF{k:Nat}{l:U}(H:h[k]?=some l)(hp:l.ay=false):s7 h F (k+1)=s7 h F k:=by grind [s7,lB,jq]
def ahn{k G:Nat}{l:U}(m:h[k]?=some l)(hp:l.ay)(j:l.gate=(G:Int)):
  s7 h F (k+1)=(s7 h F k).set G (aV (h.take k) G+1):=by
 apply xR
 .simp[s7]
 intro i f H;simp[s7,Fh,Of]
 grind [sG,jq,lB]
def KR(o:aG)(k n:Nat):(bQ o).set k [.int .i64 (n:Int)]=bQ (o.set k n):=by simp[Ew]
def acy(o:aG):I (bQ o)=I o:=aE
def ZN(n m:Nat):bQ (List.replicate n m)=List.replicate n [.int .i64 (m:Int)]:=aE
def ae1(n:Nat)(b:Bool):iQ (List.replicate n b)=List.replicate n [.bool b]:=aE
def Ez{k:Nat}{l:U}(H:h[k]?=some l)(hp:l.ay):dn h (k+1)= !dn h k:=by
 unfold dn;rw[sG H hp]
 grind
theorem Jc{k:Nat}{l:U}(H:h[k]?=some l)(hp:l.ay=false):dn h (k+1)=dn h k:=by unfold dn;rw[lB H hp]
def c9(h:af)(i:Nat):Bool:=match h[i]? with|some l=>l.ay&&dn h i|none=>false
def u5(h:af)(k:Nat):gD:=(List.range (I h)).map λi=>decide (i<k)&&c9 h i
def lr(h:af):gD:=(List.range (I h)).map (c9 h)
def aB1(h:af):u5 h 0=List.replicate (I h) false:=by apply xR<;>simp[u5]
def atM(h:af):u5 h (I h)=lr h:=by
 unfold u5 lr
 simp_all
def aoh(h:af)(k:Nat):I (u5 h k)=I h:=by simp[u5]
def an4{k:Nat}{l:U}(H:h[k]?=some l)(hp:l.ay=false):u5 h (k+1)=u5 h k:=by grind [u5,c9]
def aqf{k:Nat}{l:U}(j:h[k]?=some l)(hp:l.ay):u5 h (k+1)=(u5 h k).set k (dn h k):=by
 apply xR
 .simp[u5]
 intro i H f;simp[u5,Fh,Of]
 grind [c9]
def dr(h:af)(g:Nat):Nat:=((List.range g).map (aV h)).sum
def pX(h:af)(g:Nat):dr h (g+1)=dr h g+aV h g:=by simp[dr,nJ]
def zf(h:af)(F k:Nat):aG:=(List.range (F+1)).map λg=>if g<k then dr h g else 0
def J9(h:af)(F:Nat):aG:=(List.range (F+1)).map (dr h)
def auL(h:af)(F:Nat):zf h F 0=List.replicate (F+1) 0:=by apply xR<;>simp[zf]
def ao5(h:af)(F:Nat):zf h F (F+1)=J9 h F:=by
 unfold zf J9
 simp_all
def aop(h:af)(F k:Nat):I (zf h F k)=F+1:=by simp[zf]
def atX(h:af)(F k:Nat):zf h F (k+1)=(zf h F k).set k (dr h k):=by
 apply xR
 .simp[zf]
 intro i H f;simp[zf,Fh,Of]
 grind
def GN{G:Nat}(H:G<=F):(gK h F)[G]?=some (aV h G):=by simp[gK,tX (show G<F+1 by omega)]
def aAB{G:Nat}(H:G<=F):(J9 h F)[G]?=some (dr h G):=by simp[J9,tX (show G<F+1 by omega)]
def yR{a b:Nat}(H:a<=b):dr h a<=dr h b:=by
 induction H with
 |refl=>exact cJ _
 |step _ f=>rw[pX];omega
def avi(g:Nat)(a:U):((a.ay&&(decide (0<=a.gate)&&decide (a.gate<((g+1:Nat):Int))))=true)↔((a.ay&&(decide (0<=a.gate)&&decide (a.gate<(g:Int))))=true\/jq g a):=by
 simp[jq,cP,iJ,c8]
 grind
def anM(g:Nat)(a:U):(a.ay&&(decide (0<=a.gate)&&decide (a.gate<(g:Int))))=true->jq g a->False:=by simp[jq,cP,iJ,c8];omega
def aa3{p q r:U->Bool}(j:∀a,r a↔(p a\/q a))(H:∀a,p a->q a->False):∀h:af,h.countP r=h.countP p+h.countP q:=by
 intro h
 induction h with
 |nil=>rfl
 |cons a h f=>grind
theorem alv(h:af):∀g,dr h g=aq (λl=>l.ay&&(decide (0<=l.gate)&&decide (l.gate<((g:Nat):Int)))) h:=by
 intro g
 induction g with
 |zero=>
  symm;show h.countP _=0
  grind
 |succ g f=>rw[pX,f];exact(aa3 (avi g) (anM g) h).symm
def WO(h:af)(g:Nat):dr h g<=I h:=by rw[alv];exact vo _ _
def dQ(h:af)(l:U):Nat:=dr h l.gate.toNat+l.au.toNat-1
def xj(h:af)(p i:Nat):Bool:=match h[i]? with|some l=>l.ay&&dQ h l==p|none=>false
def yA(h:af)(T k:Nat):gD:=(List.range T).map λp=>(List.range k).any (xj h p)
def Ng(h:af)(k p:Nat):Nat:=((List.range k).find? (xj h p)).getD 0
def ud(h:af)(T k:Nat):aG:=(List.range T).map (Ng h k)
def CN(h:af)(i:Nat):Nat:=match h[i]? with|some l=>if l.ay then dQ h l else 0|none=>0
def lp(h:af)(k:Nat):aG:=(List.range (I h)).map λi=>if i<k then CN h i else 0
def yV(h:af)(i:Nat):Bool:=match h[i]? with
 |some l=> !l.ay||(decide (1<=l.au)&&decide (l.au<=(aV h l.gate.toNat:Int)))&& !(List.range i).any (xj h (dQ h l))
 |none=>true
def Br(h:af):Bool:=(List.range (I h)).all (yV h)
def aty(h:af)(T:Nat):yA h T 0=List.replicate T false:=by apply xR<;>simp[yA]
def ayG(h:af)(T:Nat):ud h T 0=List.replicate T 0:=by apply xR<;>simp[ud,Ng]
def auw(h:af):lp h 0=List.replicate (I h) 0:=by apply xR<;>simp[lp]
def aib(h:af)(T k:Nat):I (ud h T k)=T:=by simp[ud]
def asz(h:af)(k:Nat):I (lp h k)=I h:=by simp[lp]
def aof{k p:Nat}(H:p<T):(yA h T k)[p]?=some ((List.range k).any (xj h p)):=by simp[yA,H]
def ak9{k p:Nat}{l:U}(H:h[k]?=some l)(hp:l.ay=false):xj h p k=false:=by simp[xj,H,hp]
def as8{k:Nat}{l:U}(H:h[k]?=some l)(hp:l.ay=false):yA h T (k+1)=yA h T k:=by unfold yA;congr 1;funext p;simp[nJ,List.any_append,ak9 H hp]
def ari{k:Nat}{l:U}(H:h[k]?=some l)(hp:l.ay=false):ud h T (k+1)=ud h T k:=by unfold ud;congr 1;funext p;simp[Ng,nJ,Z3,ak9 H hp]
def axN{k:Nat}{l:U}(H:h[k]?=some l)(hp:l.ay=false):lp h (k+1)=lp h k:=by grind [lp,CN]
def ai0{k p:Nat}{l:U}(H:h[k]?=some l)(hp:l.ay):xj h p k=(dQ h l==p):=by simp[xj,H,hp]
def aBh{k:Nat}{l:U}(f:h[k]?=some l)(hp:l.ay):yA h T (k+1)=(yA h T k).set (dQ h l) true:=by
 apply xR
 .simp[yA]
 intro i H j;simp[yA,Fh,Of,nJ,List.any_append,List.any_cons,List.any_nil,aar,ai0 f hp]
 grind
def aun{k:Nat}{l:U}(m:h[k]?=some l)(hp:l.ay)(f:(List.range k).any (xj h (dQ h l))=false):ud h T (k+1)=(ud h T k).set (dQ h l) k:=by
 apply xR
 .simp[ud]
 intro i H j;rw[List.getElem_set];simp[ud,Fh,Of,Ng,nJ,Z3]
 grind [xj]
def azL{k:Nat}{l:U}(j:h[k]?=some l)(hp:l.ay):lp h (k+1)=(lp h k).set k (dQ h l):=by
 apply xR
 .simp[lp]
 intro i H f;simp[lp,Fh,Of]
 grind [CN]
def YC{k:Nat}(H:k<I h)(f:yV h k=false):Br h=false:=by
 unfold Br
 grind
def aph(H:∀i,i<I h->yV h i):Br h:=by
 unfold Br
 grind
end Go.Abs
