/- A part. -/
import Derived.Test.YtgjjncbeombnbaaGreatDoorSa
set_option linter.all false
open List renaming length->I
set_option maxRecDepth 100000
set_option maxHeartbeats 16000000
namespace Go.Abs
variable{x n m z v F T:Nat}{f:Int}{j:bj}{Q:gX}
structure U where
 kind:Int
 gate:Int
 ao:Int
 id:Int
 sign:Int
 over:Bool
 deriving DecidableEq
abbrev af:=List U
variable{h:af}
def U.ps(l:U):dF:=[.int .i64 l.kind,.int .i64 l.gate,.int .i64 l.ao,.int .i64 l.id,.int .i64 l.sign,.bool l.over]
def U.aw(l:U):Bool:=l.kind==1
def U.aq(l:U):Bool:=l.kind==2
abbrev od(ls:af):PV:=.sl (ls.map U.ps)
abbrev fc(f:Int)(ls:af):V:=.agg [.p (.int .i64 f),.p (od ls)]
abbrev lR(f:Int)(ls:af):dY:=[.p (.int .i64 f),.p (od ls)]
abbrev aE(k:Int):V:=.one (.p (.int .i64 k))
abbrev iI(b:Bool):V:=.one (.p (.bool b))
abbrev jv(k:Int):RV:=.one (.p (.int .i64 k))
abbrev eh(k:Bool):RV:=.one (.p (.bool k))
abbrev au(p:U->Bool)(ls:af):Nat:=ls.countP p
def aM{α:Type}{h:List α}{k:Nat}(H:k<I h):∃l,h[k]?=some l:=⟨h[k],by simp[H]⟩
theorem sa{p:U->Bool}{k:Nat}{l:U}(f:h[k]?=some l)(hp:p l):au p (h.take (k+1))=au p (h.take k)+1:=by unfold au;obtain⟨H,rfl⟩:=bd.1 f;rw[Vj H,vz,YT,an hp]
theorem kB{p:U->Bool}{k:Nat}{l:U}(f:h[k]?=some l)(hp:p l=false):au p (h.take (k+1))=au p (h.take k):=by unfold au;obtain⟨H,rfl⟩:=bd.1 f;rw[Vj H,vz,YT,hp];rfl
def yU(p:U->Bool)(h:af)(k:Nat):au p (h.take k)<=k:=nA IU (by grind)
def tH(p:U->Bool)(h:af):au p h<=I h:=IU
def jh{k:Nat}{l:U}(H:h[k]?=some l):(h.map U.ps)[k]?=some l.ps:=by simp[H]
def rX{a b:Nat}(h:a+b<=9223372036854775807):IntKind.i64.wrap ((a:Int)+(b:Int))=((a+b:Nat):Int):=wrap_small (n:=a+b) h
def qg{a:Nat}(h:2*a<=9223372036854775807):IntKind.i64.wrap (2*(a:Int))=((2*a:Nat):Int):=wrap_small (n:=2*a) h
def W6{a b:Nat}(h:b<=a)(H:a<=9223372036854775807):IntKind.i64.wrap ((a:Int)-(b:Int))=((a-b:Nat):Int):=by have:((a:Int)-(b:Int))=((a-b:Nat):Int):=J;rw[this];exact wrap_small J
def Af{a:Nat}(h:1<=a)(H:a<=9223372036854775807):IntKind.i64.wrap ((a:Int)-1)=((a-1:Nat):Int):=W6 (b:=1) h H
def adw(x y:Option (dF×aC))(f:Nat):Option (PV×aC):=match x,y with
 |some (x,r),some (y,s)=>some (.fn f x y,r++s)
 |_,_=>none
def atj{x y:dF}{r s:aC}{f:Nat}:adw (some (x,r)) (some (y,s)) f=some (.fn f x y,r++s):=rfl
def ayB{blk:aG}{f:Nat}{a b:dY}:snap blk iC (.hfn f a b)=adw (gO (snap blk 5) a) (gO (snap blk 5) b) f:=by unfold iC;rfl
def ayl{blk:aG}{id g:Nat}:snap blk (n+1) (.bh id g m)=PR (blk id) (gO (snap blk n)) id g m:=by rw[snap];rfl
def aoy{blk:aG}{id g len:Nat}:snap blk (n+1) (.hsl id g z m len)=Sn (blk id) (gO (gO (snap blk n))) id g m len:=by rw[snap];rfl
def aS{b:Bool}(h:b:=by kernel_rfl):b:=h
def bR{f:Nat}{fn:aV}{A:dC}{r:RV}(hf:S.fns f=some fn)(h:W S .all fn.body (tU .all fn.results λv blk=>lr blk v=some r) (rl A) zV)(hp:S.prim f A=none:=by rfl)(hl:I A<=fn.ntmps:=by exact jx rfl):aI S f A r:=aqS hp hf hl h
def jX:¬((2:Int)=0):=aa
def ve(a b:Nat):(a:Int).tmod b=((a%b:Nat):Int):=by rw[QO J];rfl
def sq(a:Nat):(a:Int).tmod 2=((a%2:Nat):Int):=ve a 2
def nq(a:Nat):(a:Int).tdiv 2=((a/2:Nat):Int):=by rw[VW J];rfl
def ff:¬((n:Int)<(n:Int)):=J
def aAv(l:U):I l.ps=6:=rfl
def axF{blk:aG}{all:aC}:tL blk all []=some []:=rfl
attribute [go_sem] ayB atj ayl aoy axF
def rq(g:Int)(l:U):Bool:=l.aw&&l.gate==g
def nP(g:Int)(l:U):Bool:=l.aq&&l.id==g
def Yb(f:Int)(h:af)(hl:I h<=1000000):aI S 42 [fc f h] (jv (au U.aw h)):=by
 refine bR ay8 ?_;simp only[go_sem,ab1];refine df (λk j _=>j 7=.one (.p (od h))/\j 8=aE (I h)/\j 9=aE k/\j 3=aE (au U.aw (h.take k))) 0 (I h) (bN _) ?_ ?_
 .simp only[go_sem];exact⟨rfl,rfl⟩
 rintro k j blk L ⟨B,m,u,H⟩
 by_cases A:k<I h
 .obtain⟨l,D⟩:=aM A;have y:=jh D;have z:((k:Int)<(I h:Int)):=J;have F:=yU (U.aw) h k;have x:=cE (n:=k) J;have E:=cE (n:=au (U.aw) (h.take k)) J;cases hp:(l.kind==1)
  case' true=>have v:=sa (p:=U.aw) D hp
  case' false=>have v:=kB (p:=U.aw) D hp
  all_goals
   simp only[go_sem,Xr,H,B,m,u,y,U.ps,z,x,E,hp,v];first|exact A|exact⟨A,rfl⟩
 have:k=I h:=J;subst this;rw[jz]at H;simp only[go_sem,Xr,ab2,H,m,u,ff]
def Tr(f:Int)(h:af)(hl:I h<=1000000):aI S 48 [fc f h] (jv (au U.aq h)):=by
 refine bR apu ?_;simp only[go_sem,ad8];refine df (λk j _=>j 7=.one (.p (od h))/\j 8=aE (I h)/\j 9=aE k/\j 3=aE (au U.aq (h.take k))) 0 (I h) (bN _) ?_ ?_
 .simp only[go_sem];exact⟨rfl,rfl⟩
 rintro k j blk L ⟨z,m,u,H⟩
 by_cases E:k<I h
 .obtain⟨l,D⟩:=aM E;have y:=jh D;have A:((k:Int)<(I h:Int)):=J;have F:=yU (U.aq) h k;have x:=cE (n:=k) J;have B:=cE (n:=au (U.aq) (h.take k)) J;cases hp:(l.kind==2)
  case' true=>have v:=sa (p:=U.aq) D hp
  case' false=>have v:=kB (p:=U.aq) D hp
  all_goals
   simp only[go_sem,Xu,H,z,m,u,y,U.ps,A,x,B,hp,v]
   grind
 have:k=I h:=J;subst this;rw[jz]at H;simp only[go_sem,Xu,ahE,H,m,u,ff]
def aah(f:Int)(h:af)(hl:I h<=1000000):aI S 43 [fc f h] (jv ((au U.aq h/2:Nat))):=by
 have H:=tH U.aq h;have E:IntKind.i64.wrap ((au U.aq h:Int).tdiv 2)=((au U.aq h/2:Nat):Int):=by
  have:(au U.aq h:Int).tdiv 2=((au U.aq h/2:Nat):Int):=by rw[VW J];omega
  rw[this];exact wrap_small J
 refine bR ash ?_;simp only[go_sem,aiq,Gg,hI (Tr f h hl),E,(by decide:¬(2:Int)=0)]
def asd(f:Int)(h:af)(hl:I h<=1000000):aI S 30 [fc f h] (jv (au U.aw h)):=by
 refine bR aul ?_;simp only[go_sem,aaa];refine df (λk j blk=>j 1=.one (.bh 1920000000 1 0)/\blk 1920000000=(1,some (.var (lR f h)))/\j 4=aE k/\j 3=aE (au U.aw (h.take k))) 0 (I h) (bN _) ?_ ?_
 .simp only[go_sem]
  grind
 rintro k j blk F ⟨u,H,M,m⟩
 by_cases A:k<I h
 .obtain⟨l,D⟩:=aM A;have y:=jh D;have z:((k:Int)<(I h:Int)):=J;have E:=yU (U.aw) h k;have x:=cE (n:=k) J;have B:=cE (n:=au (U.aw) (h.take k)) J;cases hp:(l.kind==1)
  case' true=>have v:=sa (p:=U.aw) D hp
  case' false=>have v:=kB (p:=U.aw) D hp
  all_goals
   simp only[go_sem,V3,u,H,M,m,y,U.ps,z,x,B,hp,v]
   grind
 have:k=I h:=J;subst this;rw[jz]at m;simp only[go_sem,V3,adn,u,H,M,m,ff]
def Zl(f:Int)(h:af)(hl:I h<=1000000):aI S 29 [fc f h] (jv (au U.aq h)):=by
 refine bR aoX ?_;simp only[go_sem,aeJ];refine df (λk j blk=>j 1=.one (.bh 1856000000 1 0)/\blk 1856000000=(1,some (.var (lR f h)))/\j 4=aE k/\j 3=aE (au U.aq (h.take k))) 0 (I h) (bN _) ?_ ?_
 .simp only[go_sem]
  grind
 rintro k j blk F ⟨u,H,M,m⟩
 by_cases A:k<I h
 .obtain⟨l,D⟩:=aM A;have y:=jh D;have z:((k:Int)<(I h:Int)):=J;have E:=yU (U.aq) h k;have x:=cE (n:=k) J;have B:=cE (n:=au (U.aq) (h.take k)) J;cases hp:(l.kind==2)
  case' true=>have v:=sa (p:=U.aq) D hp
  case' false=>have v:=kB (p:=U.aq) D hp
  all_goals
   simp only[go_sem,T5,u,H,M,m,y,U.ps,z,x,B,hp,v]
   grind
 have:k=I h:=J;subst this;rw[jz]at m;simp only[go_sem,T5,ajx,u,H,M,m,ff]
def amB(f:Int)(h:af)(hl:I h<=1000000):aI S 33 [fc f h] (jv ((au U.aq h/2:Nat))):=by
 have H:=tH U.aq h;have E:IntKind.i64.wrap ((au U.aq h:Int).tdiv 2)=((au U.aq h/2:Nat):Int):=by
  have:(au U.aq h:Int).tdiv 2=((au U.aq h/2:Nat):Int):=by rw[VW J];omega
  rw[this];exact wrap_small J
 refine bR alQ ?_;simp only[go_sem,aaO,zT,hI (Zl f h hl),E,(by decide:¬(2:Int)=0)]
def atT(f:Int)(h:af)(hl:I h<=1000000)(g:Int):aI S 57 [fc f h,aE g] (jv (au (rq g) h)):=by
 refine bR ayF ?_;simp only[go_sem,aaN];refine df (λk j blk=>j 2=.one (.bh 3648000000 1 0)/\blk 3648000000=(1,some (.var (lR f h)))/\j 6=aE k/\j 5=aE (au (rq g) (h.take k))/\j 1=aE g) 0 (I h) (bN _) ?_ ?_
 .simp only[go_sem];first|exact⟨rfl,rfl⟩|exact _
 rintro k j blk N ⟨u,v,M,m,B⟩
 by_cases A:k<I h
 .obtain⟨l,D⟩:=aM A;have y:=jh D;have z:((k:Int)<(I h:Int)):=J;have L:=yU ((rq g)) h k;have x:=cE (n:=k) J;have F:=cE (n:=au ((rq g)) (h.take k)) J;cases hp:(l.kind==1)with
  |true=>
   cases H:(l.gate==g)
   case' true=>have E:=sa (p:=(rq g)) D (by simp only[rq,U.aw,hp,H];rfl)
   case' false=>have E:=kB (p:=(rq g)) D (by simp only[rq,U.aw,hp,H];rfl)
   all_goals
    simp only[go_sem,Su,u,v,M,m,y,U.ps,z,x,F,B,hp,H,E];first|exact A|exact _
  |false=>simp only[go_sem,Su,u,v,M,m,y,U.ps,z,x,B,hp,kB (p:=(rq g)) D (by simp only[rq,U.aw,hp];rfl)];first|exact A|exact⟨A,rfl⟩
 have:k=I h:=J;subst this;rw[jz]at m;simp only[go_sem,Su,aiJ,u,v,M,m,ff]
def awA(f:Int)(h:af)(hl:I h<=1000000)(g:Int):aI S 58 [fc f h,aE g] (jv (au (nP g) h)):=by
 refine bR at5 ?_;simp only[go_sem,acM];refine df (λk j blk=>j 2=.one (.bh 3712000000 1 0)/\blk 3712000000=(1,some (.var (lR f h)))/\j 6=aE k/\j 5=aE (au (nP g) (h.take k))/\j 1=aE g) 0 (I h) (bN _) ?_ ?_
 .simp only[go_sem];first|exact⟨rfl,rfl⟩|exact _
 rintro k j blk N ⟨u,v,M,m,B⟩
 by_cases A:k<I h
 .obtain⟨l,D⟩:=aM A;have y:=jh D;have z:((k:Int)<(I h:Int)):=J;have L:=yU ((nP g)) h k;have x:=cE (n:=k) J;have F:=cE (n:=au ((nP g)) (h.take k)) J;cases hp:(l.kind==2)with
  |true=>
   cases H:(l.id==g)
   case' true=>have E:=sa (p:=(nP g)) D (by simp only[nP,U.aq,hp,H];rfl)
   case' false=>have E:=kB (p:=(nP g)) D (by simp only[nP,U.aq,hp,H];rfl)
   all_goals
    simp only[go_sem,PJ,u,v,M,m,y,U.ps,z,x,F,B,hp,H,E];first|exact A|exact _
  |false=>simp only[go_sem,PJ,u,v,M,m,y,U.ps,z,x,B,hp,kB (p:=(nP g)) D (by simp only[nP,U.aq,hp];rfl)];first|exact A|exact⟨A,rfl⟩
 have:k=I h:=J;subst this;rw[jz]at m;simp only[go_sem,PJ,abW,u,v,M,m,ff]
def dn (h:af)(i:Nat):Bool:=au U.aw (h.take i)%2==0
def Kc(f:Int)(h:af)(i:Nat)(hl:I h<=1000000)(O:i<=I h):aI S 54 [fc f h,aE i] (eh (dn h i)):=by
 refine bR arj ?_;simp only[go_sem,aiM];refine df (λk j blk=>j 1=aE i/\j 2=.one (.bh 3456000000 1 0)/\blk 3456000000=(1,some (.var (lR f h)))/\j 6=aE k/\j 5=aE (au U.aw (h.take k))) 0 i (bN _) ?_ ?_
 .simp only[go_sem];exact⟨rfl,rfl⟩
 rintro k j blk N ⟨H,B,E,m,u⟩
 have M:=yU U.aw h k;by_cases A:k<i
 .obtain⟨l,D⟩:=aM (h:=h) (k:=k) J;have y:=jh D;have z:((k:Int)<(i:Int)):=J;have x:=cE (n:=k) J;have F:=cE (n:=au U.aw (h.take k)) J;cases hp:(l.kind==1)
  case' true=>have v:=sa (p:=U.aw) D hp
  case' false=>have v:=kB (p:=U.aw) D hp
  all_goals
   simp only[go_sem,Xj,H,B,E,m,u,y,U.ps,z,x,F,hp,v];exact A
 have:k=i:=J;subst this;have L:((((au U.aw (h.take k))%2:Nat):Int)==0)=dn h k:=by
  unfold dn
  grind
 simp only[go_sem,Xj,aeI,H,m,u,ff,jX,sq,L]
def aAf(a b:U):aI S 93 [.agg (a.ps.map .p),.agg (b.ps.map .p)] (eh (decide (a.gate<b.gate)||(a.gate==b.gate&&decide (a.ao<b.ao)))):=by
 refine bR aqf ?_;by_cases h:a.gate<b.gate
 .simp only[go_sem,PF,U.ps,h]
 cases H:(a.gate==b.gate)with
 |true=>simp only[go_sem,PF,U.ps,h,H]
 |false=>simp only[go_sem,PF,U.ps,h,H]
def dx(n i:Nat)(f:Bool):Nat:=if f then 2*i else 2*((i+n-1)%n)+1
def XO(f:Int)(h:af)(i:Nat)(F:Bool)(hl:I h<=1000000)(y:i<I h):aI S 94 [fc f h,aE i,iI F] (jv (dx (I h) i F)):=by
 refine bR arx ?_;cases F with
 |true=>have e:IntKind.i64.wrap (2*(i:Int))=((2*i:Nat):Int):=wrap_small (n:=2*i) J;simp only[go_sem,Ut,e,dx]
 |false=>
  have j:IntKind.i64.wrap ((i:Int)+(I h:Int))=((i+I h:Nat):Int):=wrap_small J;have v:IntKind.i64.wrap (((i+I h:Nat):Int)-1)=((i+I h-1:Nat):Int):=by have:(((i+I h:Nat):Int)-1)=((i+I h-1:Nat):Int):=J;rw[this];exact wrap_small J
  have E:=ve (i+I h-1) (I h);have x:=cJ (i+I h-1) (show 0<I h by omega);have u:IntKind.i64.wrap (2*(((i+I h-1)%I h:Nat):Int))=((2*((i+I h-1)%I h):Nat):Int):=wrap_small (n:=2*((i+I h-1)%I h)) J;have m:=cE (n:=2*((i+I h-1)%I h)) J;have H:¬((I h:Int)=0):=J;simp only[go_sem,Ut,j,v,E,u,m,H,dx]
def yI(h:af)(i j:Nat):Bool:=j !=i&&(match h[j]? with|some l=>l.aq&&l.id==((h[i]?).map U.id).getD 0|none=>false)
def gC(h:af)(i:Nat):Nat:=((List.range (I h)).find? (yI h i)).getD i
def BY{p:Nat->Bool}:∀ {n k:Nat},k<n->(∀j,j<k->p j=false)->p k->(List.range n).find? p=some k:=by simp_all
def Gn{p:Nat->Bool}(h:∀j,j<n->p j=false):(List.range n).find? p=none:=by grind
def aj9(f:Int)(h:af)(i:Nat)(hl:I h<=1000000)(B8:i<I h):aI S 95 [fc f h,aE i] (jv (gC h i)):=by
 obtain⟨Q,Y⟩:=aM B8;have X:=jh Y;have L:∀m l,h[m]?=some l->yI h i m=(m !=i&&(l.aq&&l.id==Q.id)):=λm l T=>by simp[yI,T,Y]
 refine bR aks ?_;simp only[go_sem,afX];refine df (λk j blk=>j 1=aE i/\j 2=.one (.bh 6080000000 1 0)/\blk 6080000000=(1,some (.var (lR f h)))/\j 5=aE k/\ ∀m,m<k->yI h i m=false) 0 (I h) (bN _) ?_ ?_
 .simp only[go_sem];exact⟨rfl,λm T=>absurd T (nJ m)⟩
 rintro k j blk hk ⟨v,D,x,M,O⟩
 by_cases A:k<I h
 .obtain⟨l,R⟩:=aM A;have N:=jh R;have y:((k:Int)<(I h:Int)):=J;have B:=cE (n:=k) J;have F:=L k l R;have step:yI h i k=false->∀m,m<k+1->yI h i m=false:=λT m hj=>by
   rcases wT.1 hj with Z|rfl
   .exact O m Z
   exact T
  by_cases H:k=i
  .have u:((k:Int)!=(i:Int))=false:=by simp[H]
   simp only[go_sem,JF,v,D,x,M,y,B,u];exact⟨ah,A,step (by rw[F];simp[H])⟩
  have u:((k:Int)!=(i:Int)):=by simp;omega
  have E:(k !=i):=by simp[H]
  cases hp:(l.kind==2)with
  |false=>simp only[go_sem,JF,v,D,x,M,N,U.ps,y,B,u,hp];exact⟨ah,A,step (by rw[F,E,U.aq,hp];rfl)⟩
  |true=>
   cases z:(l.id==Q.id)with
   |false=>simp only[go_sem,JF,v,D,x,M,N,X,U.ps,y,B,u,hp,z];exact⟨ah,A,step (by rw[F,E,U.aq,hp,z];rfl)⟩
   |true=>
    have hf:gC h i=k:=by unfold gC;rw[BY A O (by rw[F,E,U.aq,hp,z];rfl)];rfl
    simp only[go_sem,JF,v,D,x,M,N,X,U.ps,y,u,hp,z,hf];show td _ _ _=true
    kernel_rfl
 have:k=I h:=J;subst this;have hf:gC h i=i:=by unfold gC;rw[Gn O];rfl
 simp only[go_sem,JF,ae1,v,D,x,M,ff,hf]
abbrev AJ(l:aC):PV:=.sl (l.map λn:Nat=>[.int .i64 (n:Int)])
def avy(l:aC)(n f:Nat)(hl:I l<=1000000)(B:l[f]?=some n)(M:∀L,L<f->l[L]? ≠some n):aI S 89 [.one (.p (AJ l)),aE n] (jv f):=by
 have H:=(bd.1 B).1;refine bR ac9 ?_;simp only[go_sem,YZ];refine df (λk j blk=>j 0=.one (.p (AJ l))/\j 1=aE n/\j 5=aE k) 0 f (bN _) ?_ ?_
 .simp only[go_sem];rfl
 rintro k j blk N ⟨u,y,z⟩
 have A:((k:Int)<(I l:Int)):=J;have D:=cE (n:=k) J;obtain⟨m,x⟩:=aM (h:=l) (k:=k) J;have v:(l.map λn:Nat=>[PV.int .i64 (n:Int)])[k]?=some [.int .i64 (m:Int)]:=by simp[x]
 by_cases F:k<f
 .have E:((m:Int)==(n:Int))=false:=by
   grind
  simp only[go_sem,IN,u,y,z,A,D,v,E];exact F
 have:k=f:=J;subst this;have e:m=n:=by rw[x]at B;exact ld B
 subst e;simp only[go_sem,IN,u,y,z,A,v]
abbrev SU(l:U):V:=.agg [.p (.int .i64 l.kind),.p (.int .i64 l.gate),.p (.int .i64 l.ao),.p (.int .i64 l.id),.p (.int .i64 l.sign),.p (.bool l.over)]
def BB(a b:U):Bool:=decide (a.gate<b.gate)||(a.gate==b.gate&&decide (a.ao<b.ao))
def anF(a b:U):aI S 93 [SU a,SU b] (eh (BB a b)):=aAf a b
abbrev bt(o:aC):dh:=o.map λn:Nat=>[PV.int .i64 (n:Int)]
def iY{o:aC}{k:Nat}(h:o[k]?=some n):(bt o)[k]?=some [.int .i64 (n:Int)]:=by simp[h]
def Cm(h:af)(i j:Nat):Bool:=match h[j]?,h[i]? with
 |some a,some b=>BB a b
 |_,_=>false
def AD(h:af)(o:aC)(i:Nat):aC:=o.take (I (o.takeWhile (Cm h i)))++i::o.drop (I (o.takeWhile (Cm h i)))
def yX(h:af)(o:aC)(i:Nat):aC:=match h[i]? with
 |some l=>if l.aw then AD h o i else o
 |none=>o
def ay(h:af):aC:=(List.range (I h)).foldl (yX h) []
def o9(h:af)(k:Nat):aC:=(List.range k).foldl (yX h) []
theorem C9(h:af)(k:Nat):o9 h (k+1)=yX h (o9 h k) k:=by unfold o9;rw[mD,zx];rfl
def awM{o:aC}{i:Nat}(H:x∈yX h o i):x∈o\/x=i:=by grind [yX,AD]
def OD:∀ {k x:Nat},x∈o9 h k->x<k:=by
 intro k
 induction k with
 |zero=>intro x H;simp[o9]at H
 |succ k f=>
  intro x H;rw[C9]at H;rcases awM H with H|H
  .have:=f H;omega
  omega
def uW(h:af):∀k,I (o9 h k)<=k:=by
 intro k
 induction k with
 |zero=>simp[o9]
 |succ k f=>grind [C9,yX,AD]
def F4(f:Nat)(o:aC)(v:V)(blk:aG):Prop:=(o=[]/\v=.one (.p .nils))\/(o≠[]/\ ∃g,v=.one (.hsl f g 1 0 (I o))/\blk f=(g,some (.arr 3 1 (bt o))))
def ay2{o:aC}{i aY:Nat}{blk:aG}(M:F4 3776576640 o (j 3) blk)(B:j 4=aE i)(E:j 5=aE aY)(O:aY<=I o)(hl:I o<=1000000)
  (z:∀A m,A 1=j 1->A 4=j 4->m 3776000000=blk 3776000000->F4 3776576640 (o.take aY++i::o.drop aY) (A 3) m->Q .normal A m):
  W S .all Ff Q j blk:=by
 rcases M with⟨rfl,H⟩|⟨M,g,H,N⟩
 .have h:aY=0:=by simpa using O
  subst h;simp only[go_sem,Ff,H,B,E,iQ,jq];refine⟨ah,z _ _ ?_ ?_ ?_ (.inr ⟨aH,(blk 3776576640).1+1,?_,?_⟩)⟩;all_goals simp only[go_sem]
 have L:∀n:Nat,n<=1000001->n*8<=140737488355328:=λn Y=>J;by_cases h:aY=0
 .subst h;have f:List.take (I o) (bt o)=bt o:=fL aH;have u:=L (1+I o) J;simp only[go_sem,Ff,H,B,E,N,f,u,iQ,jq];refine⟨ah,z _ _ ?_ ?_ ?_ (.inr ⟨aH,g+1,?_,?_⟩)⟩;all_goals simp only[go_sem]
  simp;omega
 have f:I (List.take aY (bt o))=aY:=by simp;omega
 have y:List.take aY (List.take aY (bt o))=List.take aY (bt o):=by rw[D5,Nat.min_self]
 have R:List.take (aY+1) (List.take aY (bt o)++[[PV.int .i64 (i:Int)]])=List.take aY (bt o)++[[PV.int .i64 (i:Int)]]:=fL (by simp;omega);have F:List.take (I o-aY) (List.drop aY (bt o))=List.drop aY (bt o):=fL aH;have x:I (List.drop aY (bt o))=I o-aY:=aH;have T:I (List.take aY (bt o)++[[PV.int .i64 (i:Int)]])=aY+1:=by simp;omega
 have u:=L aY J;have X:=L (aY+1) J;have v:=L (aY+1+(I o-aY)) J;have D:aY+(I o-aY)<=I o:=J;simp only[go_sem,Ff,H,B,E,N,O,f,h,u,X,v,y,R,F,x,T,D,iQ,jq];refine⟨ah,z _ _ ?_ ?_ ?_ (.inr ⟨aH,g+1,?_,?_⟩)⟩;all_goals simp only[go_sem]
 .simp;omega
 simp
theorem akE{α:Type}{p:α->Bool}{l:List α}{aY:Nat}(h:aY<=I l)(H:∀j x,j<aY->l[j]?=some x->p x)(f:∀x,l[aY]?=some x->p x=false):I (l.takeWhile p)=aY:=by
 induction l generalizing aY with
 |nil=>simp at h |-;omega
 |cons a l m=>
  cases aY with
  |zero=>simp_all
  |succ aY=>have:=H 0 a J rfl;simp[List.takeWhile,this,fG];rw[m (by simpa using h) (λj x u n=>H (j+1) x J (by grind)) (λx n=>f x (by grind))]
def amM{o:aC}{i:Nat}{T:U}{blk:aG}(E:F4 3776576640 o (j 3) blk)(h1:j 1=.one (.bh 3776000000 1 0))(hB:blk 3776000000=(1,some (.var (lR f h))))(h4:j 4=aE i)(h5:j 5=aE 0)
  (rK:h[i]?=some T) (aB:∀x∈o,x<I h) (hl:I o<=1000000)
  (hq:∀A u,A 1=j 1->A 4=j 4->u 3776000000=blk 3776000000->F4 3776576640 (AD h o i) (A 3) u->Q .normal A u):
  W S .all (.loop MU) (se 2 (CM S .all Ff Q)) j blk:=by
 have iF:=jh rK;refine df (λk A u=>A 1=j 1/\A 4=j 4/\A 3=j 3/\u=blk/\A 5=aE k/\ ∀ab x,ab<k->o[ab]?=some x->Cm h i x) 0 (I o) (bN _) ?_ ?_
 .exact⟨rfl,rfl,rfl,rfl,h5,λab x L=>absurd L (nJ ab)⟩
 rintro k A u hk ⟨M,D,m,rfl,z,hp⟩
 rw[h1]at M;rw[h4]at D;have fin:∀e:bj,e 1=A 1->e 4=A 4->e 3=A 3->e 5=A 5->(∀x,o[k]?=some x->Cm h i x=false)->W S .all Ff Q e u:=by
  intro e e1 e4 e3 e5 sP;refine ay2 (by rw[e3,m];exact E) (by rw[e4,D]) (by rw[e5,z]) hk hl ?_
  grind [AD,akE]
 by_cases X:k<I o
 .obtain⟨x,v⟩:=aM X;obtain⟨Z,B⟩:=aM (aB x (aX v));have lW:=jh B;have Cf:=iY v;have aL:((k:Int)<(I o:Int)):=J;have N:Cm h i x=BB Z T:=by simp[Cm,B,rK]
  have R:=anF Z T;rcases E with⟨rfl,_⟩|⟨E,g,F,Y⟩
  .simp at X
  rw[F]at m;cases O:BB Z T with
  |true=>
   rw[O]at R;simp only[go_sem,MU,h1,F,h4,M,m,D,z,hB,Y,aL,Cf,lW,iF,U.ps,X,cE (n:=k) J,abF,ss R];refine⟨ah,λab y L H=>?_⟩;rcases wT.1 L with L|rfl
   .exact hp ab y L H
   rw[v]at H;cases H;rw[N,O]
  |false=>rw[O]at R;simp only[go_sem,MU,M,m,D,z,hB,Y,aL,Cf,lW,iF,U.ps,X,abF,ss R];refine⟨ah,fin _ ?_ ?_ ?_ ?_ (λy H=>by rw[v]at H;cases H;rw[N,O])⟩;all_goals simp only[go_sem,M,m,D,z]
 have:k=I o:=J;subst this;rcases E with⟨rfl,F⟩|⟨E,g,F,Y⟩
 all_goals
  rw[F]at m;simp only[go_sem,MU,m,z,ff];refine⟨ah,fin _ ?_ ?_ ?_ ?_ (λx v=>by simp at v)⟩;all_goals simp only[go_sem,M,m,D,z]
theorem ay6(h:af)(o:aC)(i:Nat):I (AD h o i)=I o+1:=by grind [AD]
def KX{blk:aG}{id g len T:Nat}{E:dh}(h:blk id=(g,some (.arr T z E)))(hl:len=I E):lr blk (.one (.hsl id g z 0 len))=some (.one (.own T z E)):=by subst hl;simp only[lr,tq,oN,nE,l7,h,ct,and_self,if_true,jz];rfl
def Rf(o:aC):l6:=if o=[]then .p .nils else .own 3 1 (bt o)
def alp(f:Int)(h:af)(hl:I h<=1000000):aI S 59 [fc f h] (.one (Rf (ay h))):=by
 refine bR alR ?_;simp only[go_sem,abD];refine df (λk j blk=>j 1=.one (.bh 3776000000 1 0)/\blk 3776000000=(1,some (.var (lR f h)))/\j 4=aE k/\F4 3776576640 (o9 h k) (j 3) blk) 0 (I h) (bN _) ?_ ?_
 .simp only[go_sem];exact⟨rfl,.inl ⟨rfl,rfl⟩⟩
 rintro k j blk Y ⟨y,z,v,m⟩
 have X:=uW h k;by_cases A:k<I h
 .obtain⟨l,D⟩:=aM A;have L:=jh D;have E:((k:Int)<(I h:Int)):=J;have B:=cE (n:=k) J;have ae:=C9 h k;unfold yX at ae;rw[D]at ae;cases hp:(l.kind==1)with
  |false=>
   have M:(l.kind !=1):=by simp[bne,hp]
   simp only[U.aw,hp]at ae;have ae:=ae;simp only[go_sem,MP,TP,y,z,v,L,U.ps,E,M,B,ae,A];rcases m with⟨e,H⟩|⟨m,g,H,u⟩
   .exact .inl ⟨e,by simp only[go_sem,H]⟩
   exact .inr ⟨m,g,by simp only[go_sem,H],by simp only[go_sem,u]⟩
  |true=>
   have M:(l.kind !=1)=false:=by simp[bne,hp]
   simp only[U.aw,hp]at ae;have ae:=ae;simp only[go_sem,MP,y,z,v,L,U.ps,E,M];refine amM (f:=f) (o:=o9 h k) ?_ ?_ ?_ ?_ ?_ D (λx R=>Nat.lt_trans (OD R) A) J ?_
   .rcases m with⟨e,H⟩|⟨m,g,H,u⟩
    .exact .inl ⟨e,by simp only[go_sem,H]⟩
    exact .inr ⟨m,g,by simp only[go_sem,H],by simp only[go_sem,u]⟩
   .simp only[go_sem,y]
   .simp only[go_sem,z]
   .simp only[go_sem,v]
   .rfl
   intro Z ak Q N F O;simp only[go_sem,y,v,z]at Q N F;simp only[go_sem,TP,Q,N,F,B,ae,A];rcases O with⟨e,H⟩|⟨m,g,H,u⟩
   .exact .inl ⟨e,by simp only[go_sem,H]⟩
   exact .inr ⟨m,g,by simp only[go_sem,H],by simp only[go_sem,u]⟩
 have:k=I h:=J;subst this;have T:ay h=o9 h (I h):=rfl;rw[<-T]at m;rcases m with⟨e,H⟩|⟨m,g,H,u⟩
 .simp only[go_sem,MP,Ua,y,z,H,v,ff,Rf,e]
 simp only[go_sem,MP,Ua,y,z,H,v,ff,Rf,m];exact KX u aH
def gU(h:af)(ax:aC)(d:Nat):Nat:=
 if 2*I h<=d then
  if d%2=0 then dx (I h) (ax.getD (((d-2*I h)/2+1)%I ax) 0) (!dn h (ax.getD (((d-2*I h)/2+1)%I ax) 0))
  else dx (I h) (ax.getD ((d-2*I h)/2) 0) (dn h (ax.getD ((d-2*I h)/2) 0))
 else
  let f:=d%2==0
  let v:=if f then(d/2+1)%I h else d/2
  match h[v]? with
  |none=>0
  |some l=>if l.kind==2 then dx (I h) (gC h v) (f==(l.over==(l.sign==1)))
   else if dn h v==f then 2*I h+2*ax.idxOf v else 2*I h+2*((ax.idxOf v+I ax-1)%I ax)+1
def ae9{i:Nat}(H:i<I h):gC h i<I h:=by
 unfold gC;cases f:(List.range (I h)).find? (yI h i)with
 |none=>exact H
 |some k=>grind
def Gy{i:Nat}{f:Bool}(h:i<n):dx n i f<2*n:=by unfold dx;have:=cJ (i+n-1) (show 0<n by omega);split<;>omega
def Sz{ax:aC}{d:Nat}(kI:∀x∈ax,x<I h)(hp:∀v l,h[v]?=some l->(l.kind==2)=false->v∈ax)(u:d<2*I h+2*I ax):gU h ax d<2*I h+2*I ax:=by
 have E:∀k,k<I ax->ax.getD k 0<I h:=λk H=>by obtain⟨x,m⟩:=aM H;rw[dz,m];exact kI x (aX m)
 unfold gU;by_cases n:2*I h<=d
 .rw[an n];by_cases j:d%2=0
  .rw[an j];exact Ai (Gy (E _ (cJ ((d-2*I h)/2+1) J))) J
  rw[ai j];exact Ai (Gy (E _ J)) J
 rw[ai n];have f:(if(d%2==0)=true then(d/2+1)%I h else d/2)<I h:=by
  split
  .exact cJ _ J
  omega
 simp only;generalize(if(d%2==0)=true then(d/2+1)%I h else d/2)=v at f;obtain⟨l,hl⟩:=aM f;rw[hl];simp only;by_cases H:(l.kind==2)
 .rw[an H];exact Ai (Gy (ae9 f)) J
 rw[ai H];have N:=Mj.2 (hp v l hl (by simpa using H));have y:=cJ (ax.idxOf v+I ax-1) (show 0<I ax by omega);split<;>omega
def awq{ax:aC}:∀j,j<ax.idxOf v->ax[j]? ≠some v:=by
 induction ax with
 |nil=>intro j h;simp at h
 |cons a ax f=>grind
theorem ab3{ax:aC}(h:v∈ax):ax[ax.idxOf v]?=some v:=by grind
def an6(f:Int)(h:af)(ax:aC)(d:Nat)(hl:I h<=1000000)(iM:I ax<=1000000)(kI:∀x∈ax,x<I h)(hp:∀v l,h[v]?=some l->(l.kind==2)=false->v∈ax)
  (hd:d<2*I h+2*I ax):aI S 60 [fc f h,.one (.p (AJ ax)),aE d] (jv (gU h ax d)):=by
 have A:IntKind.i64.wrap (2*(I h:Int))=((2*I h:Nat):Int):=wrap_small (n:=2*I h) J;unfold gU;by_cases ab:2*I h<=d
 .rw[an ab];refine bR abG ?_;have y:((2*I h:Nat):Int)<=(d:Int):=J;have m2:IntKind.i64.wrap ((d:Int)-((2*I h:Nat):Int))=((d-2*I h:Nat):Int):=by
   have:((d:Int)-((2*I h:Nat):Int))=((d-2*I h:Nat):Int):=J;rw[this];exact wrap_small J
  have M:=wrap_small (n:=(d-2*I h)/2) J;have hm:=cJ ((d-2*I h)/2+1) (show 0<I ax by omega);have O:¬((I ax:Int)=0):=J;by_cases L:d%2=0
  .rw[an L];have B:=cE (n:=(d-2*I h)/2) J;have T:(((d%2:Nat):Int)==0):=by simp[L]
   have z:=ve ((d-2*I h)/2+1) (I ax);obtain⟨v,H⟩:=aM hm;have Q:ax.getD (((d-2*I h)/2+1)%I ax) 0=v:=by rw[dz,H];rfl
   rw[Q];have u:=kI v (aX H);have E:=iY H;have j:=Kc f h v hl J;have m:=XO f h v (!dn h v) hl u;simp only[go_sem,NX,A,m2,M,B,z,y,T,E,O,sq,nq,jX,Jo,UP,ss j,vn m];exact aS
  rw[ai L];have T:(((d%2:Nat):Int)==0)=false:=by simp;omega
  obtain⟨v,H⟩:=aM (h:=ax) (k:=(d-2*I h)/2) J;have Q:ax.getD ((d-2*I h)/2) 0=v:=by rw[dz,H];rfl
  rw[Q];have u:=kI v (aX H);have E:=iY H;have j:=Kc f h v hl J;have m:=XO f h v (dn h v) hl u;simp only[go_sem,NX,A,m2,M,y,T,E,sq,nq,jX,Jo,UP,ss j,vn m];exact aS
 rw[ai ab];have y:¬(((2*I h:Nat):Int)<=(d:Int)):=J;have M:=wrap_small (n:=d/2) J;have Z:¬((I h:Int)=0):=J;have O:=cJ (d/2+1) (show 0<I h by omega);have B:=cE (n:=d/2) J;have z:=ve (d/2+1) (I h);have body:∀v:Nat,v<I h->∀F:Bool,v=(if F then(d/2+1)%I h else d/2)->(d%2==0)=F->(((d%2:Nat):Int)==0)=F->aI S 60 [fc f h,.one (.p (AJ ax)),aE d] (jv ((match h[v]? with
   |none=>0
   |some l=>if l.kind==2 then dx (I h) (gC h v) (F==(l.over==(l.sign==1)))
    else if dn h v==F then 2*I h+2*ax.idxOf v else 2*I h+2*((ax.idxOf v+I ax-1)%I ax)+1:Nat):Int)):=by
  intro v H F N zM NQ;obtain⟨l,Y⟩:=aM H;have X:=jh Y;rw[Y];simp only;refine bR abG ?_;cases R:(l.kind==2)with
  |true=>
   have po:=aj9 f h v hl H;have m:=XO f h (gC h v) (F==(l.over==(l.sign==1))) hl (ae9 H);cases F
   case' true=>have N:v=(d/2+1)%I h:=N
   case' false=>have N:v=d/2:=N
   all_goals
    rw[N]at X po m |-;simp only[go_sem,NX,A,M,B,z,y,NQ,X,U.ps,Z,R,sq,nq,jX,aqp,UP,vn po,vn m];exact aS
  |false=>
   have ia:=hp v l Y R;have NV:ax.idxOf v<I ax:=Mj.2 ia;have D:=avy ax v (ax.idxOf v) iM (ab3 ia) awq;have j:=Kc f h v hl J;have Ww:¬((I ax:Int)=0):=J;have iN:=cJ (ax.idxOf v+I ax-1) (show 0<I ax by omega);have n1:=qg (a:=ax.idxOf v) J;have n2:=rX (a:=2*I h) (b:=2*ax.idxOf v) J;have n3:=rX (a:=ax.idxOf v) (b:=I ax) J;have n4:=Af (a:=ax.idxOf v+I ax) J J;have n5:=ve (ax.idxOf v+I ax-1) (I ax);have n6:=qg (a:=(ax.idxOf v+I ax-1)%I ax) J;have n7:=rX (a:=2*I h) (b:=2*((ax.idxOf v+I ax-1)%I ax)) J;have n8:=cE (n:=2*I h+2*((ax.idxOf v+I ax-1)%I ax)) J;cases F
   case' true=>have N:v=(d/2+1)%I h:=N
   case' false=>have N:v=d/2:=N
   all_goals
    cases iz:dn h v;all_goals
     rw[iz]at j;subst N;simp only[go_sem,NX,A,M,B,z,y,NQ,X,U.ps,Z,R,sq,nq,jX,OV,Jo,hI D,eU j,n1,n2,n3,n4,n5,n6,n7,n8,Ww]
 have u:(if(d%2==0)=true then(d/2+1)%I h else d/2)<I h:=by
  split
  .exact O
  omega
 have:=body _ u (d%2==0) rfl rfl (by cases hq:(d%2==0)<;>simp at hq |- <;>omega);exact this
abbrev hJ(o:fT):dh:=o.map λb:Bool=>[PV.bool b]
def sW{o:fT}{k:Nat}{b:Bool}(h:o[k]?=some b):(hJ o)[k]?=some [.bool b]:=by simp[h]
def IZ(o:fT)(k:Nat)(b:Bool):(hJ o).set k [.bool b]=hJ (o.set k b):=by simp[vd]
def gG(next:Nat->Nat):Nat->Nat->fT->aC×fT
 |0,_,seen=>([],seen)
 |k+1,x,seen=>if seen.getD x true then([],seen)else(x::(gG next k (next x) (seen.set x true)).1,(gG next k (next x) (seen.set x true)).2)
def y7(s:fT):Nat:=s.countP (λb=> !b)
theorem LK{s:fT}(h:s[x]?=some false):y7 (s.set x true)+1=y7 s:=by grind [y7]
theorem asK(next:Nat->Nat):∀(k x:Nat) (s:fT),(gG next k x s).2.length=I s:=by
 intro k
 induction k with
 |zero=>intro x s;rfl
 |succ k f=>grind [gG]
def u6(next:Nat->Nat)(st:List aC×fT)(d:Nat):List aC×fT:=if st.2.getD d true then st else(st.1++[(gG next (I st.2+1) d st.2).1],(gG next (I st.2+1) d st.2).2)
def fi(next:Nat->Nat)(N k:Nat):List aC×fT:=(List.range k).foldl (u6 next) ([],List.replicate N false)
def fF(next:Nat->Nat)(N:Nat):List aC:=(fi next N N).1
theorem yJ(next:Nat->Nat)(N k:Nat):fi next N (k+1)=u6 next (fi next N k) k:=by unfold fi;rw[mD,zx];rfl
theorem FZ(next:Nat->Nat)(N:Nat):∀k,(fi next N k).2.length=N:=by
 intro k
 induction k with
 |zero=>simp[fi]
 |succ k f=>grind [yJ,u6,asK]
def aou(next:Nat->Nat)(N k:Nat)(h:1<=k)(j:1<=N):(fi next N k).1≠[]:=by
 induction k with
 |zero=>omega
 |succ k f=>
  rw[yJ];by_cases H:k=0
  .grind [fi,u6]
  have:=f J;unfold u6;split
  .exact this
  simp
def K9(next:Nat->Nat)(N:Nat):∀k,(fi next N k).1.length<=k:=by
 intro k
 induction k with
 |zero=>simp[fi]
 |succ k f=>grind [yJ,u6]
theorem IX(s:fT):y7 s<=I s:=IU
def anR{ax:aC}(hl:I h<=1000000)(iM:I ax<=1000000)(kI:∀x∈ax,x<I h)(hp:∀v l,h[v]?=some l->(l.kind==2)=false->v∈ax):
  ∀(F x:Nat) (dO:fT) (w:aC) (j:bj) (blk:aG),j 1=.one (.bh 2048000000 1 0)->blk 2048000000=(1,some (.var (lR f h)))->
   j 4=.one (.hsl 2048128064 1 1 0 (I ax))->blk 2048128064=(1,some (.arr 3 1 (bt ax)))->j 5=.one (.hsl 2048192512 1 1 0 (I dO))->blk 2048192512=(1,some (.arr 4 1 (hJ dO)))->
   F4 2048832192 w (j 7) blk->j 8=aE x->x<I dO->I dO=2*I h+2*I ax->y7 dO<F->I w+y7 dO<=5000000->
   (∀A m,A 1=j 1->A 3=j 3->A 4=j 4->A 5=j 5->A 6=j 6->m 2048000000=blk 2048000000->m 2048128064=blk 2048128064->m 2048896192=blk 2048896192->m 2048896128=blk 2048896128->
    m 2048192512=(1,some (.arr 4 1 (hJ (gG (gU h ax) F x dO).2)))->F4 2048832192 (w++(gG (gU h ax) F x dO).1) (A 7) m->Q .normal A m)->
   W S .all (.loop Kl) (se 2 Q) j blk:=by
 intro F
 induction F with
 |zero=>intro x dO w j blk _ _ _ _ _ _ _ _ _ _ ab;omega
 |succ F ih=>
  intro x dO w j blk z L y B u E ho h8 D hsl hu hw H;obtain⟨b,R⟩:=aM D;have qj:=sW R;have sN:dO.getD x true=b:=by rw[dz,R];rfl
  unfold gG at H;rw[sN]at H;refine mP ?_;cases b with
  |true=>
   simp only[go_sem,Kl,u,E,h8,D,qj];refine H _ _ ?_ ?_ ?_ ?_ ?_ rfl rfl rfl rfl E ?_;all_goals simp only[go_sem]
   exact ho
  |false=>
   have HW:=LK R;have pt:=an6 f h ax x hl iM kI hp J;have mu:=Sz (d:=x) kI hp J;have iG:=IZ dO x true;have lZ:∀n:Nat,n<=5000001->n*8<=140737488355328:=λn hn=>J;have HT:List.take (I ax) (bt ax)=bt ax:=fL aH;rcases ho with⟨rfl,Z⟩|⟨KM,g,Z,hC⟩
   .simp only[go_sem,Kl,z,L,y,B,u,E,Z,h8,D,qj,iG,HT,abO,hI pt,iQ,jq];refine ih (gU h ax x) (dO.set x true) [x] _ _ ?_ ?_ ?_ ?_ ?_ ?_ ?_ ?_ (by simpa [hsl]using mu) (by simpa using hsl) J (by simp;omega) ?_
    .simp only[go_sem,z]
    .simp only[go_sem,L]
    .simp only[go_sem,y]
    .simp only[go_sem,B]
    .simp only[go_sem,u,q_]
    .simp only[go_sem]
    .simp only[go_sem];exact .inr ⟨aH,_,rfl,rfl⟩
    .simp only[go_sem]
    intro A m Y q3 q4 q5 X M b2 T b4 N O;refine H A m ?_ ?_ ?_ ?_ ?_ ?_ ?_ ?_ ?_ N ?_
    .rw[Y];simp only[go_sem]
    .rw[q3];simp only[go_sem]
    .rw[q4];simp only[go_sem]
    .rw[q5];simp only[go_sem]
    .rw[X];simp only[go_sem]
    .rw[M];simp only[go_sem]
    .rw[b2];simp only[go_sem]
    .rw[T];simp only[go_sem]
    .rw[b4];simp only[go_sem]
    simpa using O
   have uS:List.take (I w) (bt w)=bt w:=fL aH;have j4:=lZ (I w+1) J;simp only[go_sem,Kl,z,L,y,B,u,E,Z,h8,D,qj,iG,HT,abO,hI pt,hC,uS,j4,iQ,jq];refine ih (gU h ax x) (dO.set x true) (w++[x]) _ _ ?_ ?_ ?_ ?_ ?_ ?_ ?_ ?_ (by simpa [hsl]using mu) (by simpa using hsl) J (by simp;omega) ?_
   .simp only[go_sem,z]
   .simp only[go_sem,L]
   .simp only[go_sem,y]
   .simp only[go_sem,B]
   .simp only[go_sem,u,q_]
   .simp only[go_sem]
   .simp only[go_sem];exact .inr ⟨aH,g+1,aH,by simp[ba]⟩
   .simp only[go_sem]
   intro A m Y q3 q4 q5 X M b2 T b4 N O;refine H A m ?_ ?_ ?_ ?_ ?_ ?_ ?_ ?_ ?_ N ?_
   .rw[Y];simp only[go_sem]
   .rw[q3];simp only[go_sem]
   .rw[q4];simp only[go_sem]
   .rw[q5];simp only[go_sem]
   .rw[X];simp only[go_sem]
   .rw[M];simp only[go_sem]
   .rw[b2];simp only[go_sem]
   .rw[T];simp only[go_sem]
   .rw[b4];simp only[go_sem]
   simpa using O
def azx(f:Nat)(o:List aC)(v:V)(blk:aG):Prop:=(o=[]/\v=.one (.p .nils))\/(o≠[]/\ ∃g,v=.one (.hsl f g 1 0 (I o))/\blk f=(g,some (.arr 38 1 (o.map λw=>[AJ w]))))
def axr(f:Int)(h:af)(hl:I h<=1000000)(E:ay h≠[])(hp:∀v l,h[v]?=some l->(l.kind==2)=false->v∈ay h):
  aI S 32 [fc f h] (.one (.own 38 1 ((fF (gU h (ay h)) (2*I h+2*I (ay h))).map λw=>[AJ w]))):=by
 have D:=alp f h hl;have kI:∀x∈ay h,x<I h:=λx ac=>OD ac;have iM:I (ay h)<=I h:=uW h (I h);unfold Rf at D;rw[ai E]at D;generalize ay h=ax at E hp D kI iM;have m1:=qg (a:=I h) J;have m2:=qg (a:=I ax) J;have m3:=rX (a:=2*I h) (b:=2*I ax) J;have nN:I (bt ax)=I ax:=aH;have lZ:2*I h+2*I ax<=140737488355328:=J;have Ej:List.replicate (2*I h+2*I ax) [PV.bool false]=hJ (List.replicate (2*I h+2*I ax) false):=aH
 refine bR azs ?_;have ab:∀(blk:aG),fR blk [] 2048128064 ((RV.one (.own 3 1 (bt ax))).ib (S.lone 2048128064))=some (.one (.hsl 2048128064 ((blk 2048128064).1+1) 1 0 (I ax)),[(2048128064,((blk 2048128064).1+1,some (.arr 3 1 (bt ax))))]):=by intro blk;have iE:S.lone 2048128064=false:=ah;rw[iE];simp only[RV.ib,fR,true_or,if_true,kV,ll,mf,kY,hs,uD,pW,bG,i_]
 simp only[go_sem,aiI,ama,dJ D (ab _),m1,m2,m3,lZ,Ej];generalize hN:2*I h+2*I ax=N at lZ;refine df (λk j blk=>j 1=.one (.bh 2048000000 1 0)/\blk 2048000000=(1,some (.var (lR f h)))/\j 4=.one (.hsl 2048128064 1 1 0 (I ax))/\blk 2048128064=(1,some (.arr 3 1 (bt ax)))/\
   j 5=.one (.hsl 2048192512 1 1 0 N)/\blk 2048192512=(1,some (.arr 4 1 (hJ (fi (gU h ax) N k).2)))/\j 6=aE k/\azx 2048896192 (fi (gU h ax) N k).1 (j 3) blk) 0 N (bN _) ?_ ?_
 .simp only[go_sem];exact⟨rfl,rfl,.inl ⟨rfl,rfl⟩⟩
 rintro k j blk hk ⟨h1,hB,O,hA,z,A,M,m⟩
 have H:=FZ (gU h ax) N k;have FW:=K9 (gU h ax) N k;by_cases B:k<N
 .have aL:((k:Int)<(N:Int)):=J;have X:=cE (n:=k) J;have ae:=yJ (gU h ax) N k;generalize di:fi (gU h ax) N k=st at H ae m A FW;obtain⟨out,dO⟩:=st;simp only at H m A FW;obtain⟨b,hb⟩:=aM (h:=dO) (k:=k) J;have qj:=sW hb;unfold u6 at ae;have sN:dO.getD k true=b:=by rw[dz,hb];rfl
  simp only[sN]at ae;cases b with
  |true=>simp only[go_sem,SG,Sq,h1,hB,O,hA,z,A,M,B,aL,qj,X,ae];exact m
  |false=>
   have ae:fi (gU h ax) N (k+1)=(out++[(gG (gU h ax) (N+1) k dO).1],(gG (gU h ax) (N+1) k dO).2):=by rw[ae,H];rfl
   have Oq:=IX dO;simp only[go_sem,SG,z,A,M,B,aL,qj];refine anR (f:=f) hl J kI hp (N+1) k dO [] _ _ ?_ ?_ ?_ ?_ ?_ ?_ ?_ ?_ J J J (by simp;omega) ?_
   .simp only[go_sem,h1]
   .simp only[go_sem,hB]
   .simp only[go_sem,O]
   .simp only[go_sem,hA]
   .simp only[go_sem,z,H]
   .simp only[go_sem,A]
   .exact .inl ⟨rfl,by simp only[go_sem]⟩
   .simp only[go_sem]
   intro aF ak q1 Q q4 R Z Y b2 b3 b4 F b6;simp only[go_sem,h1,O,z,M]at q1 Q q4 R Z;simp only[go_sem,hB,hA]at Y b2 b3 b4;have T:(gG (gU h ax) (N+1) k dO).1≠[]:=by unfold gG;rw[sN];simp
   rw[fz]at b6;rcases b6 with⟨e,_⟩|⟨_,g,L,y⟩
   .exact(T e).elim
   generalize gG (gU h ax) (N+1) k dO=wf at ae T F L y;obtain⟨w,jm⟩:=wf;simp only at ae T F L y;have uS:List.take (I w) (bt w)=bt w:=fL aH;rcases m with⟨rfl,u⟩|⟨m,go,u,hO⟩
   .rw[u]at Q;simp only[go_sem,V5,Sq,q1,Q,q4,R,Z,Y,b2,F,L,y,uS,X,ae,B,xy,iQ,jq];exact .inr ⟨aH,_,rfl,by simp[ba]⟩
   rw[u]at Q;have F3:List.take (I out) (out.map λw=>[AJ w])=out.map λw=>[AJ w]:=fL aH;have j4:(I out+1)*24<=140737488355328:=J;simp only[go_sem,V5,Sq,q1,Q,q4,R,Z,Y,b2,b3,F,L,y,hO,uS,F3,j4,X,ae,B,xy,dt,iQ,jq];exact .inr ⟨aH,go+1,aH,by simp[ba]⟩
 have:k=N:=J;subst this;have he:fF (gU h ax) k=(fi (gU h ax) k k).1:=rfl;rw[<-he]at m;rcases m with⟨e,u⟩|⟨m,g,u,y⟩
 .exact(aou (gU h ax) k k (by have:=gA.2 E;omega) (by have:=gA.2 E;omega) e).elim
 simp only[go_sem,SG,afr,u,z,M,ff];exact KX y aH
abbrev XT(l:U):dY:=[.p (.int .i64 l.kind),.p (.int .i64 l.gate),.p (.int .i64 l.ao),.p (.int .i64 l.id),.p (.int .i64 l.sign),.p (.bool l.over)]
def jQ(l o:U):Bool:=(o.kind==l.kind&&o.gate==l.gate)&&o.ao==l.ao
def jF(l o:U):Bool:=((o.kind==l.kind&&o.id==l.id)&&o.sign==l.sign)&& !(o.over==l.over)
def Hh(f:Int)(h:af)(l:U):Bool:= !(((((((l.id !=0||l.sign !=0)||l.over)||decide (l.gate<0))||decide (f<l.gate))||decide (l.ao<1))||decide ((au (rq l.gate) h:Int)<l.ao))||(((au (jQ l) h:Nat):Int)!=1))
def vZ(h:af)(l:U):Bool:= !((((((l.gate !=0||l.ao !=0)||(l.sign !=1&&l.sign != -1))||decide (l.id<1))||decide (((au U.aq h/2:Nat):Int)<l.id))||(((au (jF l) h:Nat):Int)!=1))||(((au (nP l.id) h:Nat):Int)!=2))
def Az(f:Int)(h:af)(l:U):Bool:=if l.kind==1 then Hh f h l else if l.kind==2 then vZ h l else false
def aqc{l:U}{g i:Nat}{blk:aG}(hl:I h<=1000000)(h1:j 1=.one (.bh 1984000000 1 0))(hB:blk 1984000000=(1,some (.var (lR f h))))(h3:j 3=aE i)(h4:j 4=.one (.bh 1984256320 g 0))(hL:blk 1984256320=(g,some (.var (XT l))))
  (h5:j 5=aE 0) (h6:j 6=aE 0) (h7:j 7=aE 0)
  (hq:∀z Y,z 1=j 1->z 3=j 3->z 4=j 4->Y 1984000000=blk 1984000000->Y 1984256320=blk 1984256320->z 5=aE (au (jQ l) h)->z 6=aE (au (jF l) h)->Q .normal z Y):
  W S .all (.loop wA) (se 2 Q) j blk:=by
 refine df (λk z Y=>z 1=.one (.bh 1984000000 1 0)/\Y 1984000000=(1,some (.var (lR f h)))/\z 3=aE i/\z 4=.one (.bh 1984256320 g 0)/\Y 1984256320=(g,some (.var (XT l)))/\
   z 5=aE (au (jQ l) (h.take k))/\z 6=aE (au (jF l) (h.take k))/\z 7=aE k) 0 (I h) (bN _) ?_ ?_
 .exact⟨h1,hB,h3,h4,hL,h5,h6,h7⟩
 rintro k z Y hk ⟨g1,D,O,N,qY,F,B,M⟩
 by_cases A:k<I h
 .obtain⟨o,H⟩:=aM A;have X:=jh H;have T:((k:Int)<(I h:Int)):=J;have b5:=yU (jQ l) h k;have b6:=yU (jF l) h k;have R:=cE (n:=k) J;have w5:=cE (n:=au (jQ l) (h.take k)) J;have Z:=cE (n:=au (jF l) (h.take k)) J;cases E:(o.kind==l.kind)with
  |true=>
   cases v:(o.gate==l.gate)with
   |true=>
    cases y:(o.ao==l.ao)with
    |true=>
     cases m:(o.id==l.id)with
     |true=>
      cases x:(o.sign==l.sign)with
      |true=>
       cases L:(o.over==l.over)
       case' true=>have u:=sa (p:=jQ l) H (by simp only[jQ,E,v,y];rfl);have c6:=kB (p:=jF l) H (by simp only[jF,E,m,x,L];rfl)
       case' false=>have u:=sa (p:=jQ l) H (by simp only[jQ,E,v,y];rfl);have c6:=sa (p:=jF l) H (by simp only[jF,E,m,x,L];rfl)
       all_goals
        simp only[go_sem,wA,g1,D,O,N,qY,F,B,M,X,U.ps,T,R,w5,Z,E,v,y,m,x,L,u,c6];first|exact A|exact⟨A,rfl⟩|exact⟨A,rfl,rfl⟩
      |false=>have u:=sa (p:=jQ l) H (by simp only[jQ,E,v,y];rfl);have c6:=kB (p:=jF l) H (by simp only[jF,E,m,x];rfl);simp only[go_sem,wA,g1,D,O,N,qY,F,B,M,X,U.ps,T,R,w5,E,v,y,m,x,u,c6];first|exact A|exact⟨A,rfl⟩|exact⟨A,rfl,rfl⟩
     |false=>have u:=sa (p:=jQ l) H (by simp only[jQ,E,v,y];rfl);have c6:=kB (p:=jF l) H (by simp only[jF,E,m];rfl);simp only[go_sem,wA,g1,D,O,N,qY,F,B,M,X,U.ps,T,R,w5,E,v,y,m,u,c6];first|exact A|exact⟨A,rfl⟩|exact⟨A,rfl,rfl⟩
    |false=>
     cases m:(o.id==l.id)with
     |true=>
      cases x:(o.sign==l.sign)with
      |true=>
       cases L:(o.over==l.over)
       case' true=>have u:=kB (p:=jQ l) H (by simp only[jQ,E,v,y];rfl);have c6:=kB (p:=jF l) H (by simp only[jF,E,m,x,L];rfl)
       case' false=>have u:=kB (p:=jQ l) H (by simp only[jQ,E,v,y];rfl);have c6:=sa (p:=jF l) H (by simp only[jF,E,m,x,L];rfl)
       all_goals
        simp only[go_sem,wA,g1,D,O,N,qY,F,B,M,X,U.ps,T,R,Z,E,v,y,m,x,L,u,c6];first|exact A|exact⟨A,rfl⟩|exact⟨A,rfl,rfl⟩
      |false=>have u:=kB (p:=jQ l) H (by simp only[jQ,E,v,y];rfl);have c6:=kB (p:=jF l) H (by simp only[jF,E,m,x];rfl);simp only[go_sem,wA,g1,D,O,N,qY,F,B,M,X,U.ps,T,R,E,v,y,m,x,u,c6];first|exact A|exact⟨A,rfl⟩|exact⟨A,rfl,rfl⟩
     |false=>have u:=kB (p:=jQ l) H (by simp only[jQ,E,v,y];rfl);have c6:=kB (p:=jF l) H (by simp only[jF,E,m];rfl);simp only[go_sem,wA,g1,D,O,N,qY,F,B,M,X,U.ps,T,R,E,v,y,m,u,c6];first|exact A|exact⟨A,rfl⟩|exact⟨A,rfl,rfl⟩
   |false=>
    cases m:(o.id==l.id)with
    |true=>
     cases x:(o.sign==l.sign)with
     |true=>
      cases L:(o.over==l.over)
      case' true=>have u:=kB (p:=jQ l) H (by simp only[jQ,E,v];rfl);have c6:=kB (p:=jF l) H (by simp only[jF,E,m,x,L];rfl)
      case' false=>have u:=kB (p:=jQ l) H (by simp only[jQ,E,v];rfl);have c6:=sa (p:=jF l) H (by simp only[jF,E,m,x,L];rfl)
      all_goals
       simp only[go_sem,wA,g1,D,O,N,qY,F,B,M,X,U.ps,T,R,Z,E,v,m,x,L,u,c6];first|exact A|exact⟨A,rfl⟩|exact⟨A,rfl,rfl⟩
     |false=>have u:=kB (p:=jQ l) H (by simp only[jQ,E,v];rfl);have c6:=kB (p:=jF l) H (by simp only[jF,E,m,x];rfl);simp only[go_sem,wA,g1,D,O,N,qY,F,B,M,X,U.ps,T,R,E,v,m,x,u,c6];first|exact A|exact⟨A,rfl⟩|exact⟨A,rfl,rfl⟩
    |false=>have u:=kB (p:=jQ l) H (by simp only[jQ,E,v];rfl);have c6:=kB (p:=jF l) H (by simp only[jF,E,m];rfl);simp only[go_sem,wA,g1,D,O,N,qY,F,B,M,X,U.ps,T,R,E,v,m,u,c6];first|exact A|exact⟨A,rfl⟩|exact⟨A,rfl,rfl⟩
  |false=>have u:=kB (p:=jQ l) H (by simp only[jQ,E];rfl);have c6:=kB (p:=jF l) H (by simp only[jF,E];rfl);simp only[go_sem,wA,g1,D,O,N,qY,F,B,M,X,U.ps,T,R,E,u,c6];first|exact A|exact⟨A,rfl⟩|exact⟨A,rfl,rfl⟩
 have:k=I h:=J;subst this;rw[jz]at F B;simp only[go_sem,wA,g1,D,M,ff];refine hq _ _ ?_ ?_ ?_ ?_ ?_ ?_ ?_;all_goals simp only[go_sem,g1,D,O,N,qY,F,B,h1,hB,h3,h4,hL]
def ayO{l:U}{g i:Nat}{blk:aG}(hl:I h<=1000000)(E:j 1=.one (.bh 1984000000 1 0))(O:blk 1984000000=(1,some (.var (lR f h))))(z:j 3=aE i)(D:j 4=.one (.bh 1984256320 g 0))(F:blk 1984256320=(g,some (.var (XT l))))
  (N:j 5=aE (au (jQ l) h)) (M:j 6=aE (au (jF l) h))
  (u:Az f h l->∀A,A 1=j 1->A 3=j 3->Q .normal A blk) (H:Az f h l=false->∀A,A 2=.one (.p (.bool false))->Q .ret A blk):
  W S .all Yq Q j blk:=by
 have m:=atT f h hl l.gate;have v:=Zl f h hl;have x:=awA f h hl l.id;have B:=tH U.aq h;have L:=wrap_small (n:=au U.aq h/2) J;simp only[go_sem,Yq,D,F];repeat' ((first|apply abn|apply aje|apply aeM|apply aaI|apply Un|apply ai3)<;>intro y<;>simp only[go_sem, *,ako,zT,amr,vn m,vn v,vn x,nq,jX,bne])
 all_goals try refine⟨ah,?_⟩
 all_goals try(refine Un (λy=>?_) (λy=>?_)<;>simp only[go_sem, *,-u,-H])
 all_goals
  simp only[Az,Hh,vZ, *,bne,Bool.or_true,X2,Bool.true_or,if_true,if_false,CW,JX,GH,Bool.and_false,Bool.false_and,gJ,Bool.true_eq_false,false_implies,forall_const]at u H;first|refine H _ ?_ |refine u _ ?_ ?_
  all_goals simp only[go_sem,E,z]
def wy(f:Int)(h:af):Bool:=h.all (Az f h)
def akJ(f:Int)(h:af)(hl:I h<=1000000):aI S 31 [fc f h] (eh (wy f h)):=by
 refine bR apW ?_;simp only[go_sem,ahR];refine df (λk j blk=>j 1=.one (.bh 1984000000 1 0)/\blk 1984000000=(1,some (.var (lR f h)))/\j 3=aE k/\ ∀y l,y<k->h[y]?=some l->Az f h l) 0 (I h) (bN _) ?_ ?_
 .simp only[go_sem];exact⟨rfl,λy l ab=>absurd ab (nJ y)⟩
 rintro k j blk hk ⟨m,v,u,D⟩
 by_cases E:k<I h
 .obtain⟨l,A⟩:=aM E;have hi:=jh A;have X:((k:Int)<(I h:Int)):=J;have R:=cE (n:=k) J;simp only[go_sem,UF,m,v,u,hi,U.ps,X];refine aqc (f:=f) (l:=l) (g:=(blk 1984256320).1+1) (i:=k) hl ?_ ?_ ?_ ?_ ?_ ?_ ?_ ?_ ?_
  .simp only[go_sem,m]
  .simp only[go_sem,v]
  .simp only[go_sem,u]
  .simp only[go_sem]
  .simp only[go_sem]
  .simp only[go_sem]
  .simp only[go_sem]
  .simp only[go_sem]
  intro aF ak Q z F B M q5 Y;simp only[go_sem,m,u]at Q z F;simp only[go_sem,v]at B M;simp only[go_sem];refine ayO (f:=f) (l:=l) (i:=k) hl Q B z F M q5 Y ?_ ?_
  .intro NR dr N O;rw[Q]at N;rw[z]at O;simp only[go_sem,agT,N,B,O,R];refine⟨E,λy l' H L=>?_⟩;rcases wT.1 H with H|rfl
   .exact D y l' H L
   rw[A]at L;cases L;exact NR
  intro T dr Z;have hf:wy f h=false:=by unfold wy;rw[Wo];exact⟨l,aX A,by simp[T]⟩
  simp only[go_sem,Z,hf]
 have:k=I h:=J;subst this;have hf:wy f h:=by unfold wy;rw[mB];intro x hx;obtain⟨y,H,rfl⟩:=List.getElem_of_mem hx;exact D y _ H aH
 simp only[go_sem,UF,aff,m,v,u,ff,hf]
theorem atC{o:aC}{i:Nat}:x∈AD h o i↔x∈o\/x=i:=by
 unfold AD;generalize(o.takeWhile _).length=aY;constructor
 .grind
 rintro(H|rfl)
 .rw[<-jC aY o]at H
  grind
 simp
def Y_:∀ {k x:Nat},k<=I h->(x∈o9 h k↔x<k/\ ∃l,h[x]?=some l/\l.aw):=by
 intro k
 induction k with
 |zero=>intro x _;simp[o9]
 |succ k f=>grind [C9,yX,atC]
def qD:x∈ay h↔ ∃l,h[x]?=some l/\l.aw:=by
 have:=Y_ (k:=I h) (x:=x) (ct _);have e:ay h=o9 h (I h):=rfl
 grind
def ah3(j:wy f h){l:U}(H:h[v]?=some l):l.aw\/l.aq:=by
 have:=(mB.1 j) l (aX H)
 grind [Az,U.aw,U.aq]
def fp(h:af):Nat:=I (fF (gU h (ay h)) (2*I h+2*I (ay h)))
def mA(f:Int)(h:af):Bool:=(match h[0]? with|some l=>l.kind==1|none=>true)&&(au U.aw h%2==0)&&wy f h&&(fp h==au U.aw h+au U.aq h/2+2)
def dM(f:Int)(h:af):Int:=if 400<I h\/200<au U.aq h then 7 else if f<0\/40<f then 2 else if h=[]then 0 else if mA f h then 0 else 3
def azX(f:Int)(h:af)(hl:I h<=1000000):aI S 13 [fc f h] (jv (dM f h)):=by
 have j:=Zl f h hl;have x:=asd f h hl;have u:=akJ f h hl;have ac:=amB f h hl;have ak:=tH U.aq h;have iF:=tH U.aw h;refine bR al7 ?_;unfold dM;by_cases Q:400<I h
 .have M:(400:Int)<(I h:Int):=J;simp only[go_sem,Al,Q,M]
 have M:¬(400:Int)<(I h:Int):=J;by_cases N:200<au U.aq h
 .have z:(200:Int)<(au U.aq h:Int):=J;simp only[go_sem,Al,Q,M,N,z,zT,hI j]
 have z:¬(200:Int)<(au U.aq h:Int):=J;by_cases B:f<0
 .simp only[go_sem,Al,Q,M,N,z,B,zT,hI j]
 by_cases D:40<f
 .simp only[go_sem,Al,Q,M,N,z,B,D,zT,hI j]
 have ab:¬(400<I h\/200<au U.aq h):=J;have Z:¬(f<0\/40<f):=J;rw[ai ab,ai Z];by_cases he:h=[]
 .subst he;have hz:(((0:Nat):Int)==0):=aa;have ad:¬((400:Int)<((0:Nat):Int)):=aa;have Y:aI S 29 [.agg [.p (.int .i64 f),.p (.sl [])]] (jv (au U.aq [])):=j;simp only[go_sem,Al,ad,z,B,D,zT,hI Y,hz]
 have O:0<I h:=gA.2 he;obtain⟨T,A⟩:=aM O;have X:=jh A;have R:(((I h:Nat):Int)==0)=false:=by simp;omega
 rw[ai he];generalize H:(if mA f h=true then(0:Int)else 3)=r;cases c1:(T.kind==1)with
 |false=>
  have n:(T.kind !=1):=by simp[bne,c1]
  have m:mA f h=false:=by simp only[mA,A,c1];rfl
  rw[m]at H;have H:(3:Int)=r:=H;subst H;simp only[go_sem,Al,M,z,B,D,zT,hI j,R,Pp,hI x,X,U.ps,n];exact aS
 |true=>
  have n:(T.kind !=1)=false:=by simp[bne,c1]
  cases F:(au U.aw h%2==0)with
  |false=>
   have y:(((au U.aw h%2:Nat):Int)!=0):=by simp at F |-;omega
   have m:mA f h=false:=by simp only[mA,A,c1,F];rfl
   rw[m]at H;have H:(3:Int)=r:=H;subst H;simp only[go_sem,Al,M,z,B,D,zT,hI j,R,Pp,hI x,X,U.ps,n,sq,jX,y];exact aS
  |true=>
   have y:(((au U.aw h%2:Nat):Int)!=0)=false:=by simp at F |-;omega
   cases c3:wy f h with
   |false=>
    rw[c3]at u;have m:mA f h=false:=by simp only[mA,A,c1,F,c3];rfl
    rw[m]at H;have H:(3:Int)=r:=H;subst H;simp only[go_sem,Al,M,z,B,D,zT,hI j,R,Pp,hI x,X,U.ps,n,sq,jX,y,ad3,ss u];exact aS
   |true=>
    rw[c3]at u;have aN:ay h≠[]:=λe=>by have:(0:Nat)∈ay h:=qD.2 ⟨T,A,c1⟩;rw[e]at this;cases this
    have hp:∀v l,h[v]?=some l->(l.kind==2)=false->v∈ay h:=λv l m N=>by
     rcases ah3 c3 m with ag|ag
     .exact qD.2 ⟨l,m,ag⟩
     unfold U.aq at ag;rw[N]at ag;cases ag
    have pw:=axr f h hl aN hp;have Kz:fp h=I (fF (gU h (ay h)) (2*I h+2*I (ay h))):=rfl;have ud:=K9 (gU h (ay h)) (2*I h+2*I (ay h)) (2*I h+2*I (ay h));generalize hW:fF (gU h (ay h)) (2*I h+2*I (ay h))=E at pw ud Kz;have a1:=rX (a:=au U.aw h) (b:=au U.aq h/2) J;have a2:IntKind.i64.wrap (((au U.aw h+au U.aq h/2:Nat):Int)+2)=((au U.aw h+au U.aq h/2+2:Nat):Int):=rX (b:=2) J;have iE:S.lone 832513152=false:=ah
    have Be:∀(blk:aG),fR blk [] 832513152 ((RV.one (.own 38 1 (E.map λw=>[AJ w]))).ib (S.lone 832513152))=some (.one (.hsl 832513152 ((blk 832513152).1+1) 1 0 (I E)),[(832513152,((blk 832513152).1+1,some (.arr 38 1 (E.map λw=>[AJ w]))))]):=by intro blk;rw[iE];simp only[RV.ib,fR,true_or,if_true,kV,ll,mf,kY,hs,uD,pW,bG,i_]
    cases c4:(I E==au U.aw h+au U.aq h/2+2)
    case' false=>
     have L:(((I E:Nat):Int)!=((au U.aw h+au U.aq h/2+2:Nat):Int)):=by simp at c4 |-;omega
     have m:mA f h=false:=by simp only[mA,A,c1,F,c3,Kz,c4];rfl
     rw[m]at H;have H:(3:Int)=r:=H
    case' true=>
     have L:(((I E:Nat):Int)!=((au U.aw h+au U.aq h/2+2:Nat):Int))=false:=by simp at c4 |-;omega
     have m:mA f h:=by simp only[mA,A,c1,F,c3,Kz,c4];rfl
     rw[m]at H;have H:(0:Int)=r:=H
    all_goals
     subst H;simp only[go_sem,Al,M,z,B,D,zT,hI j,R,Pp,hI x,X,U.ps,n,sq,jX,y,ad3,ss u,ax0,pX pw (Be _),ays,vn ac,a1,a2,L];exact aS
def d_(f:Int)(l:U):Bool:=if l.kind==1 then(((decide (l.gate<0)||decide (f<l.gate))||l.id !=0)||l.sign !=0)||l.over else if l.kind==2 then(l.gate !=0||l.ao !=0)||(l.sign !=1&&l.sign != -1)else true
def ayb(f:Int)(l:U)(z X x x4 v y:PV):aI S 120 [SU l,.one (.p (.box [.box [.int .i64 f,z,X,x,x4,v,y]]))] (eh (d_ f l)):=by
 refine bR an0 ?_;cases k1:(l.kind==1)with
 |true=>
  cases A:(decide (l.gate<0))with
  |true=>
   have B:=D1 A;have h:d_ f l:=by simp only[d_,k1,A];rfl
   simp only[go_sem,yR,k1,B,h];exact aS
  |false=>
   cases j:(decide (f<l.gate))with
   |true=>
    have B:=xA A;have F:=D1 j;have h:d_ f l:=by simp only[d_,k1,A,j];rfl
    simp only[go_sem,yR,k1,B,F,h];exact aS
   |false=>
    cases m:(l.id !=0)with
    |true=>
     have B:=xA A;have F:=xA j;have h:d_ f l:=by simp only[d_,k1,A,j,m];rfl
     simp only[go_sem,yR,k1,B,F,m,h];exact aS
    |false=>
     cases n:(l.sign !=0)with
     |true=>
      have B:=xA A;have F:=xA j;have h:d_ f l:=by simp only[d_,k1,A,j,m,n];rfl
      simp only[go_sem,yR,k1,B,F,m,n,h];exact aS
     |false=>
      cases u:(l.over)
      case' true=>have B:=xA A;have F:=xA j;have h:d_ f l:=by simp only[d_,k1,A,j,m,n,u];rfl
      case' false=>have B:=xA A;have F:=xA j;have h:d_ f l=false:=by simp only[d_,k1,A,j,m,n,u];rfl
      all_goals
       simp only[go_sem,yR,k1,B,F,m,n,u,h];exact aS
 |false=>
  cases k2:(l.kind==2)with
  |true=>
   cases A:(l.gate !=0)with
   |true=>
    have h:d_ f l:=by simp only[d_,k1,k2,A];rfl
    simp only[go_sem,yR,k1,k2,A,h]
   |false=>
    cases j:(l.ao !=0)with
    |true=>
     have h:d_ f l:=by simp only[d_,k1,k2,A,j];rfl
     simp only[go_sem,yR,k1,k2,A,j,h]
    |false=>
     cases m:(l.sign !=1)with
     |true=>
      cases n:(l.sign != -1)
      case' true=>have h:d_ f l:=by simp only[d_,k1,k2,A,j,m,n];rfl
      case' false=>have h:d_ f l=false:=by simp only[d_,k1,k2,A,j,m,n];rfl
      all_goals
       simp only[go_sem,yR,k1,k2,A,j,m,n,h]
     |false=>
      have h:d_ f l=false:=by simp only[d_,k1,k2,A,j,m];rfl
      simp only[go_sem,yR,k1,k2,A,j,m,h]
  |false=>
   have h:d_ f l:=by simp only[d_,k1,k2];rfl
   simp only[go_sem,yR,k1,k2,h]
abbrev QA(f:Int)(x1 x2 x3 x4 x5 x6:PV):PV:=.fn 120 [] [.box [.box [.int .i64 f,x1,x2,x3,x4,x5,x6]]]
def aqL(f:Int)(h:af)(D X x x4 z B:PV)(hl:I h<=1000000)(u:D.norm=D/\X.norm=X/\x.norm=x/\x4.norm=x4/\z.norm=z/\B.norm=B):
  ∃k:Int,(0<=k↔h.any (d_ f)=true)/\aI S 145 [.one (.p (od h)),.one (.p (QA f D X x x4 z B))] (jv k):=by
 have M:∀r:Int,(∀(k:Nat) l,h[k]?=some l->d_ f l->(∀(v:Nat) m,v<k->h[v]?=some m->d_ f m=false)->r=k)->((∀(v:Nat) m,h[v]?=some m->d_ f m=false)->r= -1)->
   aI S 145 [.one (.p (od h)),.one (.p (QA f D X x x4 z B))] (jv r):=by
  intro r j4 uR;refine bR avI ?_;simp only[go_sem,afA];refine df (λk j blk=>j 0=.one (.p (od h))/\j 1=.one (.p (QA f D X x x4 z B))/\j 7=aE (I h)/\j 8=aE k/\ ∀v m,v<k->h[v]?=some m->d_ f m=false) 0 (I h) (bN _) ?_ ?_
  .simp only[go_sem];exact⟨rfl,λv m E=>absurd E (nJ v)⟩
  rintro k j blk hk ⟨R,y,L,N,u⟩
  by_cases Y:k<I h
  .obtain⟨l,F⟩:=aM Y;have Z:=jh F;have T:((k:Int)<(I h:Int)):=J;have pb:=ayb f l D X x x4 z B;cases H:d_ f l with
   |true=>rw[H]at pb;have O:=j4 k l F H u;subst O;simp only[go_sem,RB,R,y,L,N,Z,U.ps,T,M9,eU pb]
   |false=>
    rw[H]at pb;simp only[go_sem,RB,R,y,L,N,Z,U.ps,T,cE (n:=k) J,M9,eU pb];refine⟨Y,λv m Q A=>?_⟩;rcases wT.1 Q with Q|rfl
    .exact u v m Q A
    rw[F]at A;cases A;exact H
  have:k=I h:=J;subst this;have O:=uR λv m A=>u v m (bd.1 A).1 A;subst O;simp only[go_sem,RB,afQ,L,N,ff]
 cases ha:h.any (d_ f)with
 |true=>
  have hx:=aau (by simpa using ha);refine⟨(h.findIdx (d_ f):Nat),⟨λ_=>rfl,λ_=>J⟩,M _ ?_ ?_⟩
  .intro k l F H u;have y:d_ f h[h.findIdx (d_ f)]:=List.findIdx_getElem;rcases EV (h.findIdx (d_ f)) k with E|E|E
   .have:=u _ _ E (re hx);rw[y]at this;cases this
   .rw[E]
   have:=List.not_of_lt_findIdx E;have e:h[k]=l:=by rw[re ((bd.1 F).1)]at F;exact ld F
   rw[e,H]at this;simp at this
  intro u;have y:d_ f h[h.findIdx (d_ f)]:=List.findIdx_getElem;have:=u _ _ (re hx);rw[y]at this;cases this
 |false=>refine⟨-1,⟨λE=>J,λE=>by cases E⟩,M _ ?_ (λ_=>rfl)⟩;intro k l F H _;have:=Cz.1 ha l (aX F);exact(this H).elim
def akY(f:Int)(h:af)(j x m x4 n X:PV)(hl:I h<=1000000)(z:j.norm=j/\x.norm=x/\m.norm=m/\x4.norm=x4/\n.norm=n/\X.norm=X):
  aI S 119 [.one (.p (od h)),.one (.p (QA f j x m x4 n X))] (eh (h.any (d_ f))):=by
 obtain⟨k,u,y⟩:=aqL f h j x m x4 n X hl z;refine bR an1 ?_;cases H:h.any _
 case' true=>have v:=u.2 H
 case' false=>have v:¬0<=k:=λA=>by rw[u.1 A]at H;cases H
 all_goals
  simp only[go_sem,aaV,ano,hI y,v]
abbrev HX(f:Int)(ls:af)(x2 x3 x4 x5 x6:PV):PV:=.box [.int .i64 f,od ls,x2,x3,x4,x5,x6]
def azn(f:Int)(h:af)(j X x4 m x:PV)(hl:I h<=1000000)(H:j.norm=j/\X.norm=X/\x4.norm=x4/\m.norm=m/\x.norm=x):
  aI S 80 [.one (.p (HX f h j X x4 m x))] (eh (!h.any (d_ f))):=by
 refine bR azV ?_;simp only[go_sem,agh,asD,eU (akY f h _ j X x4 m x hl _),H.1,H.2.1,H.2.2.1,H.2.2.2.1,H.2.2.2.2]
def anL(f:Int)(h:af)(L:U)(x m x4 n X:PV)(hl:I h<=1000000)(j:h[0]?=some L):
  aI S 81 [.one (.p (HX f h x m x4 n X))] (eh (L.kind==1&&au U.aw h%2==0)):=by
 have B:=jh j;refine bR arK ?_;have E:((((au U.aw h)%2:Nat):Int)==0)=(au U.aw h%2==0):=by grind
 cases H:(L.kind==1)with
 |true=>simp only[go_sem,W4,B,U.ps,H,Th,hI (Yb f h hl),sq,jX,E]
 |false=>simp only[go_sem,W4,B,U.ps,H]
def ir(g:Nat)(l:U):Bool:=l.aw&&l.gate==(g:Int)
abbrev aJ(ls:af)(g:Nat):Nat:=au (ir g) ls
def rz(h:af)(F k:Nat):aC:=(List.range (F+1)).map λg=>aJ (h.take k) g
def gb(h:af)(F:Nat):aC:=(List.range (F+1)).map (aJ h)
def agc{k G:Nat}(H:G<=F):(rz h F k)[G]?=some (aJ (h.take k) G):=by simp[rz,sy (show G<F+1 by omega)]
def Zb(h:af)(F:Nat):rz h F (I h)=gb h F:=by simp[rz,gb]
def Y3(h:af)(F:Nat):rz h F 0=List.replicate (F+1) 0:=by apply wh<;>simp[rz]
def adt{k:Nat}{l:U}(H:h[k]?=some l)(hp:l.aw=false):rz h F (k+1)=rz h F k:=by grind [rz,kB,ir]
def ahv{k G:Nat}{l:U}(m:h[k]?=some l)(hp:l.aw)(j:l.gate=(G:Int)):
  rz h F (k+1)=(rz h F k).set G (aJ (h.take k) G+1):=by
 apply wh
 .simp[rz]
 intro i f H;simp[rz,D2,EM]
 grind [sa,ir,kB]
def Jm(o:aC)(k n:Nat):(bt o).set k [.int .i64 (n:Int)]=bt (o.set k n):=by simp[vd]
def T2(o:aC):I (bt o)=I o:=aH
def UY(n m:Nat):bt (List.replicate n m)=List.replicate n [.int .i64 (m:Int)]:=aH
def abT(n:Nat)(b:Bool):hJ (List.replicate n b)=List.replicate n [.bool b]:=aH
def Dy{k:Nat}{l:U}(H:h[k]?=some l)(hp:l.aw):dn h (k+1)= !dn h k:=by
 unfold dn;rw[sa H hp]
 grind
theorem JJ{k:Nat}{l:U}(H:h[k]?=some l)(hp:l.aw=false):dn h (k+1)=dn h k:=by unfold dn;rw[kB H hp]
def dw(h:af)(i:Nat):Bool:=match h[i]? with|some l=>l.aw&&dn h i|none=>false
def tO(h:af)(k:Nat):fT:=(List.range (I h)).map λi=>decide (i<k)&&dw h i
def mF(h:af):fT:=(List.range (I h)).map (dw h)
def al6(h:af):tO h 0=List.replicate (I h) false:=by apply wh<;>simp[tO]
def al4(h:af):tO h (I h)=mF h:=by
 unfold tO mF
 simp_all
def ann(h:af)(k:Nat):I (tO h k)=I h:=by simp[tO]
def ayq{k:Nat}{l:U}(H:h[k]?=some l)(hp:l.aw=false):tO h (k+1)=tO h k:=by grind [tO,dw]
def aqB{k:Nat}{l:U}(j:h[k]?=some l)(hp:l.aw):tO h (k+1)=(tO h k).set k (dn h k):=by
 apply wh
 .simp[tO]
 intro i H f;simp[tO,D2,EM]
 grind [dw]
def cX(h:af)(g:Nat):Nat:=((List.range g).map (aJ h)).sum
def lz(h:af)(g:Nat):cX h (g+1)=cX h g+aJ h g:=by simp[cX,mD]
def wH(h:af)(F k:Nat):aC:=(List.range (F+1)).map λg=>if g<k then cX h g else 0
def Iw(h:af)(F:Nat):aC:=(List.range (F+1)).map (cX h)
def azl(h:af)(F:Nat):wH h F 0=List.replicate (F+1) 0:=by apply wh<;>simp[wH]
def au4(h:af)(F:Nat):wH h F (F+1)=Iw h F:=by
 unfold wH Iw
 simp_all
def asm(h:af)(F k:Nat):I (wH h F k)=F+1:=by simp[wH]
def ayV(h:af)(F k:Nat):wH h F (k+1)=(wH h F k).set k (cX h k):=by
 apply wh
 .simp[wH]
 intro i H f;simp[wH,D2,EM]
 grind
def Ey{G:Nat}(H:G<=F):(gb h F)[G]?=some (aJ h G):=by simp[gb,sy (show G<F+1 by omega)]
def akZ{G:Nat}(H:G<=F):(Iw h F)[G]?=some (cX h G):=by simp[Iw,sy (show G<F+1 by omega)]
def wO{a b:Nat}(H:a<=b):cX h a<=cX h b:=by
 induction H with
 |refl=>exact ct _
 |step _ f=>rw[lz];omega
def ati(g:Nat)(a:U):((a.aw&&(decide (0<=a.gate)&&decide (a.gate<((g+1:Nat):Int))))=true)↔((a.aw&&(decide (0<=a.gate)&&decide (a.gate<(g:Int))))=true\/ir g a):=by
 simp[ir,cN,jn,cW]
 grind
def axY(g:Nat)(a:U):(a.aw&&(decide (0<=a.gate)&&decide (a.gate<(g:Int))))=true->ir g a->False:=by simp[ir,cN,jn,cW];omega
def Qc{p q r:U->Bool}(j:∀a,r a↔(p a\/q a))(H:∀a,p a->q a->False):∀h:af,h.countP r=h.countP p+h.countP q:=by
 intro h
 induction h with
 |nil=>rfl
 |cons a h f=>grind
theorem adQ(h:af):∀g,cX h g=au (λl=>l.aw&&(decide (0<=l.gate)&&decide (l.gate<((g:Nat):Int)))) h:=by
 intro g
 induction g with
 |zero=>
  symm;show h.countP _=0
  grind
 |succ g f=>rw[lz,f];exact(Qc (ati g) (axY g) h).symm
def Vs(h:af)(g:Nat):cX h g<=I h:=by rw[adQ];exact tH _ _
def eC(h:af)(l:U):Nat:=cX h l.gate.toNat+l.ao.toNat-1
def uo(h:af)(p i:Nat):Bool:=match h[i]? with|some l=>l.aw&&eC h l==p|none=>false
def xr(h:af)(T k:Nat):fT:=(List.range T).map λp=>(List.range k).any (uo h p)
def Le(h:af)(k p:Nat):Nat:=((List.range k).find? (uo h p)).getD 0
def sU(h:af)(T k:Nat):aC:=(List.range T).map (Le h k)
def AU(h:af)(i:Nat):Nat:=match h[i]? with|some l=>if l.aw then eC h l else 0|none=>0
def jZ(h:af)(k:Nat):aC:=(List.range (I h)).map λi=>if i<k then AU h i else 0
def xD(h:af)(i:Nat):Bool:=match h[i]? with
 |some l=> !l.aw||(decide (1<=l.ao)&&decide (l.ao<=(aJ h l.gate.toNat:Int)))&& !(List.range i).any (uo h (eC h l))
 |none=>true
def AL(h:af):Bool:=(List.range (I h)).all (xD h)
def aoK(h:af)(T:Nat):xr h T 0=List.replicate T false:=by apply wh<;>simp[xr]
def atu(h:af)(T:Nat):sU h T 0=List.replicate T 0:=by apply wh<;>simp[sU,Le]
def atG(h:af):jZ h 0=List.replicate (I h) 0:=by apply wh<;>simp[jZ]
def ac5(h:af)(T k:Nat):I (sU h T k)=T:=by simp[sU]
def awh(h:af)(k:Nat):I (jZ h k)=I h:=by simp[jZ]
def anH{k p:Nat}(H:p<T):(xr h T k)[p]?=some ((List.range k).any (uo h p)):=by simp[xr,H]
def afg{k p:Nat}{l:U}(H:h[k]?=some l)(hp:l.aw=false):uo h p k=false:=by simp[uo,H,hp]
def atW{k:Nat}{l:U}(H:h[k]?=some l)(hp:l.aw=false):xr h T (k+1)=xr h T k:=by unfold xr;congr 1;funext p;simp[mD,List.any_append,afg H hp]
def awF{k:Nat}{l:U}(H:h[k]?=some l)(hp:l.aw=false):sU h T (k+1)=sU h T k:=by unfold sU;congr 1;funext p;simp[Le,mD,YW,afg H hp]
def aly{k:Nat}{l:U}(H:h[k]?=some l)(hp:l.aw=false):jZ h (k+1)=jZ h k:=by grind [jZ,AU]
def ajH{k p:Nat}{l:U}(H:h[k]?=some l)(hp:l.aw):uo h p k=(eC h l==p):=by simp[uo,H,hp]
def apb{k:Nat}{l:U}(f:h[k]?=some l)(hp:l.aw):xr h T (k+1)=(xr h T k).set (eC h l) true:=by
 apply wh
 .simp[xr]
 intro i H j;simp[xr,D2,EM,mD,List.any_append,List.any_cons,List.any_nil,X2,ajH f hp]
 grind
def akv{k:Nat}{l:U}(m:h[k]?=some l)(hp:l.aw)(f:(List.range k).any (uo h (eC h l))=false):sU h T (k+1)=(sU h T k).set (eC h l) k:=by
 apply wh
 .simp[sU]
 intro i H j;rw[List.getElem_set];simp[sU,D2,EM,Le,mD,YW]
 grind [uo]
def ax4{k:Nat}{l:U}(j:h[k]?=some l)(hp:l.aw):jZ h (k+1)=(jZ h k).set k (eC h l):=by
 apply wh
 .simp[jZ]
 intro i H f;simp[jZ,D2,EM]
 grind [AU]
def Zc{k:Nat}(H:k<I h)(f:xD h k=false):AL h=false:=by
 unfold AL
 grind
def ar4(H:∀i,i<I h->xD h i):AL h:=by
 unfold AL
 grind
end Go.Abs
