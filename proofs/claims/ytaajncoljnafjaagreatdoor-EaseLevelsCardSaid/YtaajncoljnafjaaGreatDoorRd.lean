/-
  The moves that are tried and those that are possible; the reducing search.
-/
import Derived.Test.YtaajncoljnafjaaGreatDoorUe
import Derived.Test.YtaajncoljnafjaaGreatDoorRa
set_option linter.all false
set_option maxRecDepth 100000
set_option maxHeartbeats 16000000
namespace Go.Abs
section
variable{F av:Nat}{D:a_}{ms:g_}{kk:Int}{ls:ai}
def Im(q:Pc->Bool):Prop:=∀p p':Pc,p.l.kind=p'.l.kind->q p=q p'
def Yu{q:Pc->Bool}(l:c_)(drop:Nat->Pc->Bool):(qP l drop).countP q<=l.countP q:=by
 have key:∀k,k<=l.length->(u6 l drop k).countP q<=(l.take k).countP q:=by
  intro k
  induction k with
  |zero=>intro _;exact bY _
  |succ k ih=>
   intro hk;obtain⟨p,hp⟩:=aL (ls:=l) (k:=k) aa;have:=ih aa;rw[oZ,hp,xJ];cases hd:drop k p
   .rw[KW hp hd,xJ];exact Nat.add_le_add_right this _
   rw[Cx hp hd];omega
 have:=key l.length (bY _);rwa[lJ]at this
def YR{q:Pc->Bool}(hq:Im q){f:Pc->Pc}(hf:∀p,(f p).l.kind=p.l.kind)(l:c_):(l.map f).countP q=l.countP q:=by rw[yS];exact Ja fun p _=>by rw[Function.comp_apply,hq _ _ (hf p)]
def avr(g ab b:Int)(p:Pc):(tF g ab b p).l.kind=p.l.kind:=by unfold tF;split<;>rfl
def ahd(ids:d_)(p:Pc):(tz ids p).l.kind=p.l.kind:=by unfold tz;split<;>rfl
section
variable {F:Nat} {ls:ai}
def ajF(g:ch F ls){q:Pc->Bool}:∀(es:a_) (l:c_),l.length=ls.length->(∀e∈es,e<ls.length)->(dG ls l es).countP q=l.countP q:=by
 intro es
 induction es with
 |nil=>intro l _ _;rfl
 |cons e es ih=>intro l hl he;show(dG ls (eG ls l e) es).countP q=_;rw[ih _ (by rw[uu,hl]) fun e h=>he e (by simp[h]),Gx hl (he e af) (CM g (he e af))]
def ai7{q:Pc->Bool}(hq:Im q)(l:c_)(i:Nat)(r:Int):(dp l i r).countP q=l.countP q:=by
 by_cases h:i<l.length
 .obtain⟨p,hp⟩:=aL h;exact Pr hp fun p=>hq _ _ rfl
 unfold dp;rw[akB aa]
def k5 (k:Int):Prop:=k=1\/k=3\/k=4\/k=6\/k=8
def SA(g:ch F ls){q:Pc->Bool}(hq:Im q){k:Int}(hk:k5 k){a b c:Nat}{l o:Bool}{sg:Int}(ha:a<ls.length)(hb:b<ls.length\/(k≠3/\k≠8))(hc:c<ls.length\/k≠8){L:c_}(h:qh F ls k a b c l o sg=some L):L.countP q<=(pieces ls).countP q:=by
 have bU:=eY ls;rcases hk with rfl|rfl|rfl|rfl|rfl
 .have h:uC ls a=some L:=h;unfold uC at h;simp only at h;split at h
  .cases h;show(List.map _ _).countP q<=_;rw[YR hq (avr _ _ _)];exact Yu (q:=q) (pieces ls) _
  cases h
 .have h:oI F ls a b=some L:=h;unfold oI at h;split at h
  .cases h;rw[ajF g _ _ (by rw[qq,qq,bU]) (by
    intro e he;simp only[bJ,eo,or_false]at he;rcases he with rfl|rfl
    .exact ha
    rcases hb with hb|hb
    .exact hb
    exact absurd rfl hb.1),ai7 hq,ai7 hq]
   exact bY _
  cases h
 .have h:u7 ls a=some L:=h;unfold u7 at h;simp only at h;split at h
  .cases h;show(List.map _ _).countP q<=_;rw[YR hq (ahd _)];exact Yu (q:=q) (pieces ls) _
  cases h
 .have h:vg F ls a b=some L:=h;unfold vg at h;split at h
  .cases h;show(List.map _ _).countP q<=_;rw[YR hq (ahd _)];exact Yu (q:=q) (pieces ls) _
  cases h
 have h:nY F ls a b c=some L:=h;unfold nY at h;split at h
 .cases h;rw[ajF g _ _ bU (by
   intro e he;simp only[bJ,eo,or_false]at he;rcases he with rfl|rfl|rfl
   .exact ha
   .rcases hb with hb|hb
    .exact hb
    exact absurd rfl hb.2
   rcases hc with hc|hc
   .exact hc
   exact absurd rfl hc)]
  exact bY _
 cases h
def do5(g:ch F ls){k:Int}(hk:k5 k)(a b c:Int)(l o:Bool)(sg:Int):aK S 52 [.one (.p (fp F ls)),qj k a b c l o sg] (pI F ls k a b c l o sg):=by
 have pa:=alG (F:=F) (ls:=ls) (a:=a) (b:=b) (c:=c) (l:=l) (o:=o) (sg:=sg) k;have hlen:=g.len;have eX:=g.cr;unfold pI;cases hA:di F ls k a b c l o sg with
 |false=>rw[hA]at pa;exact anO pa
 |true=>
  rw[hA]at pa;rw[aD rfl];have hL:∀L,qh F ls k a.toNat b.toNat c.toNat l o sg=some L->L.length<=1000000:=fun L h=>by have:=asU h;omega
  have ne:=g.ne;have j9:¬ls.length=0:=by have:=jl.2 ne;omega
  unfold di at hA;by_cases h1:k=1
  .subst h1;simp only[Int.reduceEq,if_true,if_false,or_false,or_self]at hA;simp only[cH,l9,cZ]at hA;obtain⟨rfl,rfl,rfl,hx,rfl,rfl⟩:=hA;obtain⟨av,rfl,ha⟩:=nV hx;simp only[qu]at hL |-;exact MZ hlen eX (k:=1) rfl ae ah pa (alS g ha) hL
  by_cases h3:k=3
  .subst h3;simp only[Int.reduceEq,if_true,if_false,or_false,or_self]at hA;simp only[cH,l9,cZ,mf]at hA;obtain⟨rfl,rfl,rfl,hx,rfl,hy,aA⟩:=hA;obtain⟨av,rfl,ha⟩:=nV hx;obtain⟨bv,rfl,hb⟩:=nV hy;simp only[qu]at hL |-;exact MZ hlen eX (k:=3) rfl ae ah pa (alX g ha hb) hL
  by_cases h4:k=4
  .subst h4;simp only[Int.reduceEq,if_true,if_false,or_false,or_true,or_self]at hA;simp only[cH,l9,cZ]at hA;obtain⟨rfl,rfl,rfl,hx,rfl,rfl⟩:=hA;obtain⟨av,rfl,ha⟩:=nV hx;simp only[qu]at hL |-;exact MZ hlen eX (k:=4) rfl ae ah pa (asg g ha) hL
  by_cases h6:k=6
  .subst h6;simp only[Int.reduceEq,if_true,if_false,or_true,or_self]at hA;simp only[cH,l9,cZ,mf]at hA;obtain⟨rfl,rfl,rfl,hx,rfl,hy,aA⟩:=hA;obtain⟨av,rfl,ha⟩:=nV hx;obtain⟨bv,rfl,hb⟩:=nV hy;simp only[qu]at hL |-;exact MZ hlen eX (k:=6) rfl ae ah pa (atm g ha hb) hL
  by_cases h8:k=8
  .subst h8;simp only[Int.reduceEq,if_true,if_false,or_self]at hA;simp only[cH,l9,cZ,mf]at hA;obtain⟨rfl,rfl,rfl,hx,hy,hz,_,_⟩:=hA;obtain⟨av,rfl,ha⟩:=nV hx;obtain⟨bv,rfl,hb⟩:=nV hy;obtain⟨cv,rfl,hc⟩:=nV hz;simp only[qu]at hL |-;exact MZ hlen eX (k:=8) rfl ae ah pa (axc g ha hb hc) hL
  exact absurd hk (by rintro(h|h|h|h|h)<;>contradiction)
def abd(g:ch F ls){k:Int}(hk:k5 k)(a b c:Int)(l o:Bool)(sg:Int):aK S 44 [ez F ls,qj k a b c l o sg] (pI F ls k a b c l o sg):=alA (Zi g) (do5 g hk a b c l o sg) alw
def Qm(g:ch F ls){k:Int}(hk:k5 k)(a b c:Int)(l o:Bool)(sg:Int):(∃e,e≠0/\pI F ls k a b c l o sg=sD e)\/ ∃M,pI F ls k a b c l o sg=l7 F M/\cG F M=0/\di F ls k a b c l o sg=true/\ ∃L,qh F ls k a.toNat b.toNat c.toNat l o sg=some L/\M=dO L:=by
 unfold pI;cases hA:di F ls k a b c l o sg
 .exact .inl ⟨2,ae,rfl⟩
 rw[aD rfl];cases hm:qh F ls k a.toNat b.toNat c.toNat l o sg with
 |none=>exact .inl ⟨4,ae,rfl⟩
 |some L=>
  unfold AZ;by_cases te:(400:Int)<(ls.length:Int)+(mK k).1\/(100:Int)<((aq Let.aB ls/2:Nat):Int)+(mK k).2
  .exact .inl ⟨7,ae,aD te⟩
  refine .inr ⟨dO L,au te,?_,rfl,L,rfl,rfl⟩;have hlen:=g.len;have eX:=g.cr;have hF:=g.fing;have ne:=g.ne;have j9:¬ls.length=0:=by have:=jl.2 ne;omega
  have eF:aq Let.aB ls%2=0:=by have:=g.cz.ev;rwa[mz]at this
  have bU:=eY ls;have kT:Im (fun _=>true):=fun _ _ _=>rfl;have kC:Im (fun p=>p.l.aB):=fun p p' h=>by show(p.l.kind==2)=(p'.l.kind==2);rw[h]
  have pC:(pieces ls).countP (fun p=>p.l.aB)=aq Let.aB ls:=by rw[<-Pd (ls:=ls) Let.aB];show _=List.countP _ (List.map _ _);rw[yS];rfl
  have lC:aq Let.aB (L.map Pc.l)=L.countP (fun p=>p.l.aB):=by show List.countP _ (List.map _ _)=_;rw[yS];rfl
  have tT:∀l:c_,l.countP (fun _=>true)=l.length:=fun l=>af;have fin:L=[]\/Cert F L->(∀ {av bv cv:Nat},a=(av:Int)->b=(bv:Int)->c=(cv:Int)->av<ls.length->(bv<ls.length\/(k≠3/\k≠8))->(cv<ls.length\/k≠8)->cG F (dO L)=0):=by
   intro hc av bv cv e1 e2 e3 ha hb uQ;subst e1 e2 e3;simp only[qu]at hm;have c1:=SA g kT hk ha hb uQ hm;have c2:=SA g kC hk ha hb uQ hm;rw[tT,tT,bU]at c1;rw[pC]at c2;rcases hc with rfl|hc
   .unfold cG;have:dO []=[]:=rfl;rw[this];rw[au (by simp[aq]),au aa,aD rfl]
   exact hc.check aa (by rw[lC];omega) hF
  unfold di at hA;by_cases h1:k=1
  .subst h1;simp only[Int.reduceEq,if_true,if_false,or_false,or_self]at hA;simp only[cH,l9,cZ]at hA;obtain⟨rfl,rfl,rfl,hx,rfl,rfl⟩:=hA;obtain⟨av,rfl,ha⟩:=nV hx;exact fin (amI g ha (by simpa [qh]using hm)) rfl (bv:=0) rfl (cv:=0) rfl ha (.inr ⟨ae,ae⟩) (.inr ae)
  by_cases h3:k=3
  .subst h3;simp only[Int.reduceEq,if_true,if_false,or_false,or_self]at hA;simp only[cH,l9,cZ,mf]at hA;obtain⟨rfl,rfl,rfl,hx,rfl,hy,aA⟩:=hA;obtain⟨av,rfl,ha⟩:=nV hx;obtain⟨bv,rfl,hb⟩:=nV hy;exact fin (.inr (MN g ha hb aa (by simpa [qh]using hm))) rfl rfl (cv:=0) rfl ha (.inl hb) (.inr ae)
  by_cases h4:k=4
  .subst h4;simp only[Int.reduceEq,if_true,if_false,or_false,or_true,or_self]at hA;simp only[cH,l9,cZ]at hA;obtain⟨rfl,rfl,rfl,hx,rfl,rfl⟩:=hA;obtain⟨av,rfl,ha⟩:=nV hx;exact fin (.inr (amJ g ha (by simpa [qh]using hm))) rfl (bv:=0) rfl (cv:=0) rfl ha (.inr ⟨ae,ae⟩) (.inr ae)
  by_cases h6:k=6
  .subst h6;simp only[Int.reduceEq,if_true,if_false,or_true,or_self]at hA;simp only[cH,l9,cZ,mf]at hA;obtain⟨rfl,rfl,rfl,hx,rfl,hy,aA⟩:=hA;obtain⟨av,rfl,ha⟩:=nV hx;obtain⟨bv,rfl,hb⟩:=nV hy;exact fin (.inr (amK g ha hb (by simpa [qh]using hm))) rfl rfl (cv:=0) rfl ha (.inr ⟨ae,ae⟩) (.inr ae)
  by_cases h8:k=8
  .subst h8;simp only[Int.reduceEq,if_true,if_false,or_self]at hA;simp only[cH,l9,cZ,mf]at hA;obtain⟨rfl,rfl,rfl,hx,hy,hz,_,_⟩:=hA;obtain⟨av,rfl,ha⟩:=nV hx;obtain⟨bv,rfl,hb⟩:=nV hy;obtain⟨cv,rfl,hc⟩:=nV hz;exact fin (.inr (MO g ha hb hc (by simpa [qh]using hm))) rfl rfl rfl ha (.inl hb) (.inl hc)
  exact absurd hk (by rintro(h|h|h|h|h)<;>contradiction)
end
def CJ(x y:aS):Bool:=decide (x.b<y.b)||(decide (x.b=y.b)&&decide (x.c<y.c))
def EK(m:aS):Prop:=(0<=m.b/\m.b<=1000000)/\0<=m.c/\m.c<=1000000
def ZV:Swo CJ:=⟨fun a b h=>by unfold CJ at*;simp at*;omega,fun a b c h k=>by unfold CJ at*;simp at*;omega⟩
def am9(x y:aS)(hx:EK x)(hy:EK y):∃n:Int,aK S 110 [Iv x,Iv y] (ri n)/\(decide (n<0)=CJ x y):=by
 obtain⟨⟨x1,x2⟩,x3,x4⟩:=hx;obtain⟨⟨y1,y2⟩,y3,y4⟩:=hy;have w1:IntKind.i64.wrap (x.b-y.b)=x.b-y.b:=xI aa aa;have w2:IntKind.i64.wrap (x.c-y.c)=x.c-y.c:=xI aa aa;cases hb:(x.b==y.b)with
 |true=>
  have e:x.b=y.b:=eq_of_beq hb;refine⟨x.c-y.c,?_,?_⟩
  .refine bt c110 ?_;simp only[go_sem,i110,bne,hb,w2]
  unfold CJ;rw[ET];simp;omega
 |false=>
  have e:¬x.b=y.b:=by simpa using hb
  refine⟨x.b-y.b,?_,?_⟩
  .refine bt c110 ?_;simp only[go_sem,i110,bne,hb,w1]
  unfold CJ;rw[ET];simp;omega
abbrev mP(o:g_):s_:=o.map aS.ps
def ahh(o:g_)(k:Nat)(v:aS):(mP o).set k v.ps=mP (o.set k v):=by simp[Mi]
def qe(o:g_):(mP o).length=o.length:=cE _
def LK(id g ty:Nat)(es:g_)(aj:aC)(v:V)(ao:aC):Prop:=v=.tup []/\(∃ws:g_,ao id=(g,some (.arr ty 7 (mP ws)))/\ws.Perm es/\xQ CJ ws 0 ws.length)/\Kept (· =id) aj ao
abbrev Fo:V:=.one (.p (.fn 110 [] []))
def ard{al:Al}{aj:aC}{id g ty:Nat}{es:g_}(o:al.ok id=true)(hl:es.length<=1000000)(F4:∀m∈es,EK m)(hC:aj id=(g,some (.arr ty 7 (mP es)))):
  ∃v ao,jg S 176 [.one (.hsl id g 7 0 es.length),vi 0,vi es.length,Fo] al aj v ao/\LK id g ty es aj v ao:=by
 have scm:S.shared 110=false:=ah;refine nL c176 (iH rfl) ?_;have w0:IntKind.i64.wrap (0+1)=((0+1:Nat):Int):=ae;simp only[go_sem,i176];refine dD (fun k ak ao=>ak 0=.one (.hsl id g 7 0 es.length)/\ak 1=vi 0/\ak 2=vi es.length/\ak 3=Fo/\ak 8=vi ((k+1:Nat):Int)/\ ∃zs:g_,ao id=(g,some (.arr ty 7 (mP zs)))/\zs.Perm es/\xQ CJ zs 0 (k+1)/\Kept (· =id) aj ao) 0 es.length (bR _) ?_ ?_
 .simp only[go_sem];exact⟨rfl,es,hC,.refl _,fun p q x y _ h1 h2=>aa,Kept.refl _ _⟩
 rintro k ak cF hk ⟨h0,h1,h2,h3,h6,zs,hZ,hp,hs,dM⟩
 have mN:=hp.length_eq;by_cases aA:k+1<es.length
 .have aM:((k+1:Nat):Int)<(es.length:Int):=aa;obtain⟨x,hx⟩:=aL (ls:=zs) (k:=k+1) aa;have sx:EK x:=F4 x (hp.mem_iff.1 (aV hx));simp only[go_sem,i176_l3,h2,h6,aM];refine dD (fun q ak ao=>ak 0=.one (.hsl id g 7 0 es.length)/\ak 1=vi 0/\ak 2=vi es.length/\ak 3=Fo/\ak 8=vi ((k+1:Nat):Int)/\ak 9=vi ((k+1-q:Nat):Int)/\ ∃ws:g_,ao id=(g,some (.arr ty 7 (mP ws)))/\Ax CJ zs ws x 0 (k+1) (k+1-q)/\Kept (· =id) aj ao) 0 (k+1) (bR _) ?_ ?_
  .simp only[go_sem,h0,h1,h2,h3,h6];exact⟨zs,hZ,Ax.start (bR _) hx hs,dM⟩
  rintro q dy bn hq ⟨k0,k1,k2,k3,k6,k7,ws,hW,hI,HQ⟩
  have jU:ws.length=es.length:=hI.perm.length_eq.trans mN;have wk:IntKind.i64.wrap (((k+1:Nat):Int)+1)=((k+1+1:Nat):Int):=cU (n:=k+1) aa;by_cases hj0:k+1-q=0
  .have e7:¬((0:Int)<((k+1-q:Nat):Int)):=aa;simp only[go_sem,i176_l1,i176_r2,k0,k1,k2,k3,k6,k7,e7,wk];refine⟨aJ,aa,ws,hW,hI.perm.trans hp,hI.stop ZV (.inl hj0),HQ⟩
  obtain⟨j,hj⟩:∃j,k+1-q=j+1:=⟨k-q,aa⟩;have e7:((0:Int)<((j+1:Nat):Int)):=aa;obtain⟨y,hy⟩:=aL (ls:=ws) (k:=j) aa;have sy:EK y:=F4 y ((hI.perm.trans hp).mem_iff.1 (aV hy));rw[hj]at hI k7;have wj:IntKind.i64.wrap (((j+1:Nat):Int)-1)=(j:Int):=by rw[An aa];omega
  have uf:=O1 hI.at';have Ep:=O1 hy;have j1:j+1<es.length:=by have:=hI.le;omega
  have j2:j<es.length:=aa;obtain⟨n,pl,hn⟩:=am9 x y sx sy;cases js:CJ x y with
  |false=>
   rw[js]at hn;have Cj:¬(n<0):=by simpa using hn
   simp only[go_sem,i176_l1,i176_r2,k0,k1,k2,k3,k6,k7,e7,wk,wj,hW,uf,Ep,aS.ps,j1,j2,o,scm,QG pl,Cj];refine⟨aJ,aa,ws,rfl,hI.perm.trans hp,hI.stop ZV (.inr ⟨y,aa,hy,js⟩),HQ⟩
  |true=>
   rw[js]at hn;have Cj:n<0:=by simpa using hn
   have yf:=hI.step ZV (bR _) hy js;have hjj:¬(j+1=j):=aa;have l1:j+1<ws.length:=aa;have l2:j<ws.length:=aa;simp only[go_sem,i176_l1,i176_r2,k0,k1,k2,k3,k6,k7,e7,wj,hW,uf,Ep,aS.ps,j1,j2,l1,hjj,o,scm,QG pl,Cj,qZ,qe];have HW:k+1-(q+1)=j:=aa;refine⟨aJ,aJ,aa,by rw[HW],(ws.set (j+1) y).set j x,by rw[<-ahh,<-ahh];rfl,by rw[HW];exact yf,(HQ.eh rfl _).eh rfl _⟩
 have aM:¬(((k+1:Nat):Int)<(es.length:Int)):=aa;simp only[go_sem,i176_l3,h2,h6,aM];exact⟨rfl,⟨zs,hZ,hp,hs.mono (.inl aa)⟩,dM⟩
def atC{al:Al}{aj:aC}{id g ty:Nat}{es:g_}(o:al.ok id=true)(f1:al.fs.contains 176=true)(hl:es.length<=12)(F4:∀m∈es,EK m)(hC:aj id=(g,some (.arr ty 7 (mP es))))(lim:Int):
  ∃v ao,jg S 141 [.one (.hsl id g 7 0 es.length),vi 0,vi es.length,vi lim,Fo] al aj v ao/\LK id g ty es aj v ao:=by
 refine nL c141 (iH rfl) ?_;have w0:IntKind.i64.wrap ((es.length:Int)-0)=(es.length:Int):=by rw[Int.sub_zero];exact xI aa aa
 have kG:(es.length:Int)<=12:=aa;simp only[go_sem,i141];refine sK ?_;simp only[go_sem,i141_l1,w0,kG,s176];refine BU hC (by rfl) (.inr ⟨o,by rw[show S.sites 176=[176] by kernel_rfl];simp only[nI,qY,f1,yP]⟩) (P:=LK id g ty es aj) (fun rU h1 _=>ard h1 aa F4 hC) fun v ao hP=>?_;obtain⟨rfl,h2⟩:=hP;simp only[go_sem];exact⟨rfl,h2⟩
def aws{al:Al}{aj:aC}{id g ty:Nat}{es:g_}(o:al.ok id=true)(f1:(S.sites 141).all al.fs.contains=true)(hl:es.length<=12)(F4:∀m∈es,EK m)(hC:aj id=(g,some (.arr ty 7 (mP es)))):
  ∃v ao,jg S 109 [.one (.hsl id g 7 0 es.length),Fo] al aj v ao/\LK id g ty es aj v ao:=by
 obtain⟨k,pb⟩:=UA es.length aa;have wu:IntKind.u64.wrap (es.length:Int)=(es.length:Int):=by
  have e:IntKind.u64.wrap (es.length:Int)=(es.length:Int)%18446744073709551616:=by unfold IntKind.wrap;rfl
  rw[e];omega
 refine nL c109 (iH rfl) ?_;have sbl:S.shared 106=false:=ah;simp only[go_sem,i109,wu,sbl,FB pb,s141];refine BU hC (by rfl) (.inr ⟨o,f1⟩) (P:=LK id g ty es aj) (fun rU h1 h2=>atC h1 (by rw[h2];kernel_rfl) hl F4 hC k) fun v ao hP=>?_;obtain⟨rfl,h2⟩:=hP;simp only[go_sem];exact⟨rfl,h2⟩
def aq6(o:d_)(x:Int)(hl:o.length<=1000000):aK S 77 [.one (.p (.sl (iP o))),vi x] (ri (match (List.range o.length).find? (pX o x)with|some k=>(k:Int)|none=> -1)):=by
 refine bt c77 ?_;simp only[go_sem,i77];refine dD (fun k ak aj=>ak 0=.one (.p (.sl (iP o)))/\ak 1=vi x/\ak 7=vi o.length/\ak 8=vi k/\ ∀j,j<k->pX o x j=false) 0 o.length (bR _) ?_ ?_
 .simp only[go_sem];exact⟨rfl,fun j hj=>absurd hj (o9 j)⟩
 rintro k ak aj hk ⟨h0,h1,h7,h8,hn⟩
 by_cases aA:k<o.length
 .have aM:((k:Int)<(o.length:Int)):=aa;obtain⟨y,hy⟩:=aL aA;have fv:=Ct hy;have w1:=cU (n:=k) aa;have oQ:pX o x k=(y==x):=by simp[pX,hy]
  cases hb:(y==x)with
  |true=>
   have wX:(x==y)=true:=by have:=cZ.1 hb;simp[this]
   rw[hb]at oQ;have hf:=DR (p:=pX o x) aA hn oQ;simp only[go_sem,i77_l1,h0,h1,h7,h8,aM,fv,wX,hf]
  |false=>
   have wX:(x==y)=false:=by
    have:¬y=x:=by simpa using hb
    simp;exact fun h=>this h.symm
   rw[hb]at oQ;have Cj:∀j,j<k+1->pX o x j=false:=fun j hj=>by
    rcases oD.1 hj with h|rfl
    .exact hn j h
    exact oQ
   simp only[go_sem,i77_l1,h0,h1,h7,h8,aA,aM,fv,wX,w1];exact Cj
 have:k=o.length:=aa;subst this;have hf:=JZ (p:=pX o x) hn;simp only[go_sem,i77_l1,i77_r2,h7,h8,eS,hf]
def ab4(o:d_)(x:Int)(hl:o.length<=1000000):aK S 50 [.one (.p (.sl (iP o))),vi x] (rb (o.contains x)):=by
 have pi:=aq6 o x hl;refine bt c50 ?_;cases hm:o.contains x with
 |true=>
  have iU:x∈o:=by simpa using hm
  obtain⟨k,hk⟩:=gV iU;have eK:=(aT.1 hk).1;cases hf:(List.range o.length).find? (pX o x)with
  |none=>have:=Jb.1 hf k (im.2 eK);simp[pX,hk]at this
  |some j=>rw[hf]at pi;have vL:(0:Int)<=(j:Int):=aa;simp only[go_sem,i50,s77,eW pi,vL]
 |false=>
  have iU:x∉o:=by simpa using hm
  cases hf:(List.range o.length).find? (pX o x)with
  |some j=>
   have h1:=Md hf;unfold pX at h1;cases ho:o[j]? with
   |none=>rw[ho]at h1;cases h1
   |some y=>
    rw[ho]at h1;have:y=x:=by simpa using h1
    subst this;exact absurd (aV ho) iU
  |none=>rw[hf]at pi;have vL:¬(0:Int)<= -1:=ae;simp only[go_sem,i50,s77,eW pi,vL]
def meq(a b:aS):Bool:=(a.k==b.k)&&((a.a==b.a)&&((a.b==b.b)&&((a.c==b.c)&&((a.l==b.l)&&((a.o==b.o)&&(a.s==b.s))))))
def aoc(x y:aS):wU [true,true,true,true,false,false,true] [.p (.int .i64 x.k),.p (.int .i64 x.a),.p (.int .i64 x.b),.p (.int .i64 x.c),.p (.bool x.l),.p (.bool x.o),.p (.int .i64 x.s)] [.p (.int .i64 y.k),.p (.int .i64 y.a),.p (.int .i64 y.b),.p (.int .i64 y.c),.p (.bool y.l),.p (.bool y.o),.p (.int .i64 y.s)]=some (meq x y):=by
 have e:∀a b:Int,vC true (.int .i64 a) (.int .i64 b)=some (a==b):=fun a b=>by simp[vC]
 have e2:∀a b:Bool,vC false (.bool a) (.bool b)=some (a==b):=fun a b=>by simp[vC]
 simp only[wU,meq,e,e2];cases(x.k==y.k)<;>cases(x.a==y.a)<;>cases(x.b==y.b)<;>cases(x.c==y.c)<;>cases(x.l==y.l)<;>cases(x.o==y.o)<;>cases(x.s==y.s)<;>rfl
def asF{a b:aS}(h:meq a b=true):a=b:=by cases a;cases b;unfold meq at h;simp only[cH,cZ]at h;obtain⟨h1,h2,h3,h4,h5,h6,h7⟩:=h;subst h1 h2 h3 h4 h5 h6 h7;rfl
def aq7(ms:g_)(x:aS)(hm:ms.length<=1000000):∃i:Int,(0<=i->x∈ms)/\aK S 140 [.one (.p (.sl (mP ms))),Iv x] (ri i):=by
 have:∃r,(∃i:Int,(0<=i->x∈ms)/\r=ri i)/\aK S 140 [.one (.p (.sl (mP ms))),Iv x] r:=by
  refine Jk rfl c140 (iH rfl) ?_;simp only[go_sem,i140];refine dD (fun k ak aj=>ak 0=.one (.p (.sl (mP ms)))/\ak 3=.one (.aZ 8960000000 1 0)/\aj 8960000000=(1,some (.var [.p (.int .i64 x.k),.p (.int .i64 x.a),.p (.int .i64 x.b),.p (.int .i64 x.c),.p (.bool x.l),.p (.bool x.o),.p (.int .i64 x.s)]))/\ak 7=vi ms.length/\ak 8=vi k) 0 ms.length (bR _) ?_ ?_
  .simp only[go_sem];first|done|rfl|exact⟨rfl,rfl⟩|exact⟨rfl,rfl,rfl⟩
  rintro k ak aj hk ⟨h0,h3,hB,h7,h8⟩
  by_cases aA:k<ms.length
  .have aM:((k:Int)<(ms.length:Int)):=aa;obtain⟨m,pQ⟩:=aL aA;have KD:=O1 pQ;have w1:=cU (n:=k) aa;have he:=aoc x m;cases hb:meq x m with
   |true=>rw[hb]at he;simp only[go_sem,i140_l1,h0,h3,hB,h7,h8,aM,KD,aS.ps,he];exact⟨aJ,_,⟨_,fun _=>(asF hb)▸aV pQ,rfl⟩,rfl⟩
   |false=>rw[hb]at he;simp only[go_sem,i140_l1,h0,h3,hB,h7,h8,aA,aM,KD,aS.ps,w1,he];exact aJ
  have:k=ms.length:=aa;subst this;simp only[go_sem,i140_l1,i140_r2,h7,h8,eS];exact⟨_,⟨_,fun h=>absurd h ae,rfl⟩,rfl⟩
 obtain⟨_,⟨i,h1,rfl⟩,h⟩:=this;exact⟨i,h1,h⟩
def ab5(ms:g_)(x:aS)(hm:ms.length<=1000000):∃b,(b=true->x∈ms)/\aK S 108 [.one (.p (.sl (mP ms))),Iv x] (rb b):=by obtain⟨i,hi,pi⟩:=aq7 ms x hm;refine⟨decide (0<=i),fun h=>hi (qx h),?_⟩;refine bt c108 ?_;simp only[go_sem,i108,s140,eW pi]
abbrev fD:Nat:=57
abbrev edT:Nat:=3
def okM(k:Int)(av:Nat)(m:aS):Prop:=m.k=k/\m.a=(av:Int)/\m.l=false/\m.o=false/\m.s=0/\EK m
def lI2{l:d_}(h:l.length=2):∃a b,l=[a,b]:=by
 match l,h with
 |[a,b],_=>exact⟨a,b,rfl⟩
def lI3{l:d_}(h:l.length=3):∃a b c,l=[a,b,c]:=by
 match l,h with
 |[a,b,c],_=>exact⟨a,b,c,rfl⟩
def Lh(aj:aC)(v:V)(ao:aC):Prop:=v=.tup []/\ao=aj
def Xq{Q:dX}{al:Al}{ak:Env}{aj:aC}{os:h_}{d:w_}{f:Nat}{vs:e_}{P:V->aC->Prop}(se:(vs.map (jF aj)).flatten=[])(hh:al=.all\/(S.sites f).all al.fs.contains=true)
  (h:∀rU,rU.fs=S.sites f->∃v ao,jg S f vs rU aj v ao/\P v ao) (hK:∀v ao,P v ao->RN S al os Q (put ak d v) ao):gP S al (.sc f vs) d os Q ak aj:=by
 refine r5 (P:=P) ?_ (h _ rfl) hK;rcases hh with rfl|h2
 .rfl
 refine holds_of ?_ h2;show al.fQ (vs.map (jF aj)).flatten=true;rw[se];rfl
def arc{al:Al}{aj:aC}:∃v ao,jg S 176 [.one (.p .nils),vi 0,vi 0,Fo] al aj v ao/\Lh aj v ao:=by refine nL c176 (iH rfl) ?_;have w0:IntKind.i64.wrap 1=1:=ae;have hz:¬((1:Int)<0):=ae;simp only[go_sem,i176];refine sK ?_;simp only[go_sem,i176_l3,w0,hz];first|done|exact⟨rfl,rfl⟩|trace_state
def atB{al:Al}{aj:aC}(f1:al.fs.contains 176=true)(lim:Int):∃v ao,jg S 141 [.one (.p .nils),vi 0,vi 0,vi lim,Fo] al aj v ao/\Lh aj v ao:=by refine nL c141 (iH rfl) ?_;have w0:IntKind.i64.wrap (0-0)=0:=ae;have kG:((0:Int)<=12):=ae;simp only[go_sem,i141];refine sK ?_;simp only[go_sem,i141_l1,w0,kG,s176];refine Xq (by rfl) (.inr (by rw[show S.sites 176=[176] by kernel_rfl];simp only[nI,qY,f1,yP])) (P:=Lh aj) (fun rU _=>arc) fun v ao hP=>?_;obtain⟨rfl,h2⟩:=hP;simp only[go_sem];exact⟨rfl,h2⟩
def awr{al:Al}{aj:aC}(f1:(S.sites 141).all al.fs.contains=true):∃v ao,jg S 109 [.one (.p .nils),Fo] al aj v ao/\Lh aj v ao:=by obtain⟨k,pb⟩:=UA 0 aa;have wu:IntKind.u64.wrap ((0:Nat):Int)=((0:Nat):Int):=ae;refine nL c109 (iH rfl) ?_;have sbl:S.shared 106=false:=ah;simp only[go_sem,i109,wu,sbl,FB pb,s141];refine Xq (by rfl) (.inr f1) (P:=Lh aj) (fun rU h2=>atB (by rw[h2];kernel_rfl) k) fun v ao hP=>?_;obtain⟨rfl,h2⟩:=hP;simp only[go_sem];exact⟨rfl,h2⟩
def kA(kk:Int)(av:Nat)(D:a_)(ms:g_):Prop:=
 (kk≠8->∀b:Nat,av<b->D.length=2->(∃d∈D,d/2=av)->(∃d∈D,d/2=b)->(⟨kk,av,b,0,false,false,0⟩:aS)∈ms)/\
 (kk=8->∀b c:Nat,av<b->b<c->D.length=3->(∃d∈D,d/2=av)->(∃d∈D,d/2=b)->(∃d∈D,d/2=c)->(⟨kk,av,b,c,false,false,0⟩:aS)∈ms)
def kA.app(h:kA kk av D ms)(x:g_):kA kk av D (ms++x):=
 ⟨fun a b c d e f=>Dg _ (h.1 a b c d e f),fun a b c d e f g i j=>Dg _ (h.2 a b c d e f g i j)⟩
def axn(h:D.length=2){x y:Nat}(hx:x∈D)(hy:y∈D)(aH:x≠y):∀z∈D,z=x\/z=y:=by
 match D,h with
 |[a,b],_=>intro z hz;simp only[bJ,eo,or_false]at hx hy hz;omega
def aw2(h:D.length=3){x y w:Nat}(hx:x∈D)(hy:y∈D)(hw:w∈D)(n1:x≠y)(n2:x≠w)(n3:y≠w):∀z∈D,z=x\/z=y\/z=w:=by
 match D,h with
 |[a,b,c],_=>intro z hz;simp only[bJ,eo,or_false]at hx hy hw hz;omega
def kA.low{d:Nat}(hd:d∈D)(h:d/2<av):kA kk av D ms:=by
 constructor
 .rintro _ b dL h2 ⟨x,hx,ex⟩ ⟨y,hy,ey⟩
  have:=axn h2 hx hy aa d hd;omega
 rintro _ b c dL yj h3 ⟨x,hx,ex⟩ ⟨y,hy,ey⟩ ⟨w,hw,ew⟩
 have:=aw2 h3 hx hy hw aa aa aa d hd;omega
def kA.vD(h:D.length=1\/3<D.length):kA kk av D ms:=
 ⟨fun _ b _ h2=>aa,fun _ b c _ _ h3=>aa⟩
def kA.two8(h:D.length=2)(h8:kk=8):kA kk av D ms:=
 ⟨fun h=>absurd h8 h,fun _ b c _ _ h3=>aa⟩
def kA.three(h:D.length=3)(h8:kk≠8):kA kk av D ms:=
 ⟨fun _ b _ h2=>aa,fun h=>absurd h h8⟩
def kA.two{y0 y1:Int}(h:D.length=2)(hp:[y0,y1].Perm (D.map fun d=>((d/2:Nat):Int)))(hs:xQ tA [y0,y1] 0 2)(h8:kk≠8)(hm:(⟨kk,av,y1,0,false,false,0⟩:aS)∈ms):kA kk av D ms:=by
 refine⟨?_,fun h=>absurd h h8⟩;rintro _ b dL _ ⟨x,hx,ex⟩ ⟨y,hy,ey⟩
 have h1:((av:Nat):Int)∈[y0,y1]:=hp.mem_iff.2 (cJ.2 ⟨x,hx,by rw[ex]⟩);have h2:((b:Nat):Int)∈[y0,y1]:=hp.mem_iff.2 (cJ.2 ⟨y,hy,by rw[ey]⟩);have h3:=hs 0 1 y0 y1 aa aa aa rfl rfl;simp only[decide_eq_false_iff_not]at h3;simp only[bJ,eo,or_false]at h1 h2;have:y1=(b:Int):=aa;rw[<-this];exact hm
def kA.thr{y0 y1 y2:Int}(h:D.length=3)(hp:[y0,y1,y2].Perm (D.map fun d=>((d/2:Nat):Int)))(hs:xQ tA [y0,y1,y2] 0 3)(hm:(⟨kk,av,y1,y2,false,false,0⟩:aS)∈ms):kA kk av D ms:=by
 refine⟨fun _ b _ h2=>aa,?_⟩;rintro _ b c dL yj _ ⟨x,hx,ex⟩ ⟨y,hy,ey⟩ ⟨w,hw,ew⟩
 have h1:((av:Nat):Int)∈[y0,y1,y2]:=hp.mem_iff.2 (cJ.2 ⟨x,hx,by rw[ex]⟩);have h2:((b:Nat):Int)∈[y0,y1,y2]:=hp.mem_iff.2 (cJ.2 ⟨y,hy,by rw[ey]⟩);have h4:((c:Nat):Int)∈[y0,y1,y2]:=hp.mem_iff.2 (cJ.2 ⟨w,hw,by rw[ew]⟩);have h3:=hs 0 1 y0 y1 aa aa aa rfl rfl;have h5:=hs 1 2 y1 y2 aa aa aa rfl rfl;simp only[decide_eq_false_iff_not]at h3 h5;simp only[bJ,eo,or_false]at h1 h2 h4;have k1:y1=(b:Int):=aa;have k2:y2=(c:Int):=aa;rw[<-k1,<-k2];exact hm
def anp(g:ch F ls)(kk:Int)(ha:av<ls.length):∃ms:g_,(ms.length<=2/\(∀m∈ms,okM kk av m)/\ ∀j,j<2->kA kk av (lN F ls (2*av+j)).cA ms)/\aK S 81 [.one (.p (fp F ls)),vi kk,vi av] (.one (aW fD 7 (mP ms))):=by
 have hlen:=g.len;have hN:nD ls<=1600:=by have:=xT ls ls.length;unfold nD;have:(aG ls).length<=ls.length:=xT ls ls.length;omega
 suffices h:∃r,(∃ms:g_,(ms.length<=2/\(∀m∈ms,okM kk av m)/\ ∀j,j<2->kA kk av (lN F ls (2*av+j)).cA ms)/\r=.one (aW fD 7 (mP ms)))/\aK S 81 [.one (.p (fp F ls)),vi kk,vi av] r by obtain⟨r,⟨ms,h1,rfl⟩,h2⟩:=h;exact⟨ms,h1,h2⟩
 refine Jk rfl c81 (iH rfl) ?_;simp only[go_sem,i81];refine dD (fun k ak aj=>ak 0=.one (.p (fp F ls))/\ak 1=vi kk/\ak 2=vi av/\ak 14=vi k/\ ∃ms c,ms.length<=k/\(∀m∈ms,okM kk av m)/\(∀j,j<k->kA kk av (lN F ls (2*av+j)).cA ms)/\ak 7=.one c/\grown 5185280192 fD 7 (mP ms) (.one c) aj) 0 2 (bR _) ?_ ?_
 .simp only[go_sem];exact⟨rfl,[],.p .nils,bY _,fun m h=>(by cases h),fun j h=>absurd h (o9 _),rfl,grown.nil⟩
 rintro k ak aj hk ⟨h0,h1,h2,nh,ms,c,uV,ay,hsd,h7,gm⟩
 by_cases aA:k<2
 .have aM:((k:Int)<2):=aa;obtain⟨j,HN,nk,Ce⟩:=W6 g (d:=2*av+k) aa;have XU:=aV nk;have Bi:=kN HN;have HL:=Xa nk;have m2:=vm (a:=av) aa;have m3:=wrap_add (a:=2*av) (b:=k) aa;have w1:=cU (n:=k) aa;have hdl:2*av+k<(qd F ls).length:=by rw[YG];omega
  have Kr:=W8 XU;have apU:=W9 g.ok XU;obtain⟨_,_,hdm,_⟩:=W7 (F:=F) (ls:=ls) (d:=2*av+k) aa;have nxt_:∀O2:g_,kA kk av (lN F ls (2*av+k)).cA (ms++O2)->∀j,j<k+1->kA kk av (lN F ls (2*av+j)).cA (ms++O2):=fun O2 h j hj=>by
   by_cases e:j=k
   .rw[e];exact h
   exact(hsd j aa).app O2
  have Iy:kA kk av (lN F ls (2*av+k)).cA ms->∀j,j<k+1->kA kk av (lN F ls (2*av+j)).cA ms:=fun h=>by have:=nxt_ [] (by rw[jG];exact h);rwa[jG]at this
  generalize hfe:lN F ls (2*av+k)=f at*;simp only[go_sem,i81_l4,h0,h2,nh,aM,m2,m3,Bi,HL,Fc.ps];refine⟨aJ,?_⟩;obtain⟨g9,hg9⟩:∃g9,(aj 5184321024).fst+1=g9:=⟨_,rfl⟩;rw[hg9];refine dD (fun q dy bn=>dy 0=.one (.p (fp F ls))/\dy 1=vi kk/\dy 2=vi av/\dy 14=vi k/\dy 7=.one c/\grown 5185280192 fD 7 (mP ms) (.one c) bn/\dy 9=.one (.aZ 5184321024 g9 0)/\bn 5184321024=(g9,some (.var (f.ps.map .p)))/\dy 34=.one (.p (.sl (nP f.cA)))/\dy 35=vi f.cA.length/\dy 36=vi q/\(0<q->f.cA.length<=3)/\ ∃zs ce,zs.length=q/\zs=(f.cA.take q).map (fun d=>((d/2:Nat):Int))/\(∀z∈zs,0<=z/\z<=1000000)/\dy 10=.one ce/\grown 5184704256 edT 1 (iP zs) (.one ce) bn) 0 f.cA.length (bR _) ?_ ?_
  .have gm':grown 5185280192 fD 7 (mP ms) (.one c) (eh (eh aj 5184321024 (g9,some (Ob.var [C.p (PV.bool false),C.p PV.nils,C.p PV.nils,C.p PV.nils,C.p (PV.bool false)]))) 5184321024 (g9,some (Ob.var (f.ps.map .p)))):=gm.of_eq ((bj ae).trans (bj ae));simp only[go_sem,h0,h1,h2,h7,nh,Fc.ps]at gm' |-;refine⟨gm',rfl,fun h=>h.elim,[],.p .nils,rfl,rfl,fun z h=>(by cases h),rfl,grown.nil⟩
  rintro q dy bn hq ⟨p0,p1,p2,xA,p7,Hr,p9,b9,Gk,O8,O9,h3,zs,ce,mN,KR,hzb,Ez,gz⟩
  simp only[Fc.ps,ek,kU]at b9;by_cases ud:q<f.cA.length
  .have Yc:((q:Int)<(f.cA.length:Int)):=aa;obtain⟨d,hd⟩:=aL ud;have lV:=kN hd;have hdb:=Kr d (aV hd);have wq:=wrap_small (n:=d/2) aa;have w2:=cU (n:=q) aa;by_cases c1:d/2<av
   .have c1':(((d/2:Nat):Int)<(av:Int)):=aa;simp only[go_sem,i81_l1,i81_r3,p0,p1,p2,xA,p7,p9,Ez,Gk,O8,O9,b9,ud,Yc,lV,eT,fR,wq,c1',w1,aA];exact⟨ms,c,aa,ay,Iy (.low (aV hd) c1),rfl,Hr⟩
   have c1':¬(((d/2:Nat):Int)<(av:Int)):=aa;by_cases c2:3<f.cA.length
   .have c2':((3:Int)<(f.cA.length:Int)):=aa;simp only[go_sem,i81_l1,i81_r3,p0,p1,p2,xA,p7,p9,Ez,Gk,O8,O9,b9,ud,Yc,lV,eT,fR,wq,c1',c2',w1,aA];exact⟨ms,c,aa,ay,Iy (.vD (.inr c2)),rfl,Hr⟩
   have c2':¬((3:Int)<(f.cA.length:Int)):=aa;simp only[go_sem,i81_l1,p2,p9,Ez,Gk,O8,O9,b9,Yc,lV,eT,fR,wq,c1',c2'];refine uO (xs:=[[.int .i64 ((d/2:Nat):Int)]]) (gz.of_eq (bj ae)) (by simp only[fN,aP,if_true];rfl) (.inl rfl) (by simp only[yA,dI,fe];omega) fun c2 gR gz2 hb=>?_;have q9:=hb 5184321024 ae ae;have A4:=Hr.of_eq ((hb 5185280192 ae ae).trans (bj ae));simp only[go_sem,b9]at q9;simp only[go_sem,p0,p1,p2,xA,p7,p9,Gk,O8,O9,q9,w2,Fc.ps];refine⟨ud,A4,fun _=>aa,zs++[((d/2:Nat):Int)],c2,by simp;omega,by rw[KR,oZ,hd];simp,fun z hz=>?_,rfl,?_⟩
   .rcases eO.1 hz with h|h
    .exact hzb z h
    have:=lI.1 h;omega
   rw[show iP (zs++[((d/2:Nat):Int)])=iP zs++[[.int .i64 ((d/2:Nat):Int)]] by simp[iP]];exact gz2
  have:q=f.cA.length:=aa;subst this;have apX:0<f.cA.length:=Mh hdm;have rD:=h3 apX;rcases gz with⟨e,_⟩|⟨_,gg,e,bz⟩
  .have hz0:(iP zs).length=0:=by rw[e];rfl
   rw[yA]at hz0;omega
  cases e;have sS:S.shared 107=true:=ah;simp only[go_sem,i81_l1,i81_r2,Ez,O8,O9,eS,sS,yA];refine BU bz (by rfl) (.inl rfl) (P:=Gu tA 5184704256 gg edT zs bn) (fun rU h1 h2=>ZR h1 (by rw[h2];kernel_rfl) aa bz) fun v gR hP=>?_;obtain⟨rfl,⟨ws,bw,pw,sw⟩,kw⟩:=hP;have A4:=Hr.of_eq (kw 5185280192 ae);have jU:=pw.length_eq;have pR:ws.Perm (f.cA.map fun d=>((d/2:Nat):Int)):=by rw[KR,lJ]at pw;exact pw
  have hwb:∀z∈ws,0<=z/\z<=1000000:=fun z hz=>hzb z (pw.mem_iff.1 hz);rw[mN]at jU;clear pw hzb b9 bz;clear h3 ud Kr apU XU hdm hq KR;generalize tn:f.cA.length=n at*;have s120:S.shared 108=false:=ah;have Bv:(((2:Nat):Int)==2)=true:=ae;have q12:(((1:Nat):Int)==2)=false:=ae;have q32:(((3:Nat):Int)==2)=false:=ae;have q13:(((1:Nat):Int)==3)=false:=ae;have vh:(((2:Nat):Int)==3)=false:=ae;have q33:(((3:Nat):Int)==3)=true:=ae;rcases(by omega:n=1\/n=2\/n=3)with rfl|rfl|rfl
  .simp only[go_sem,i81_r3,p0,p1,p2,xA,p7,Ez,mN,q12,q13,w1,aA];exact⟨ms,c,aa,ay,Iy (.vD (.inl tn)),rfl,A4.of_eq ((bj ae).trans (bj ae))⟩
  .obtain⟨y0,y1,rfl⟩:=lI2 jU;by_cases h8:kk=8
   .have e8:(kk !=8)=false:=by rw[h8];rfl
    simp only[go_sem,i81_r3,p0,p1,p2,xA,p7,Ez,mN,Bv,vh,e8,w1,aA];exact⟨ms,c,aa,ay,Iy (.two8 tn h8),rfl,A4.of_eq ((bj ae).trans (bj ae))⟩
   have e8:(kk !=8)=true:=by simpa using h8
   simp only[go_sem,i81_r3,p1,p2,p7,Ez,mN,Bv,e8,bw];obtain⟨bb,yh,pcv⟩:=ab5 ms ⟨kk,av,y1,0,false,false,0⟩ aa;have Zn:aK S 108 [.one (.p (.sl (mP ms))),.agg [.p (.int .i64 kk),.p (.int .i64 av),.p (.int .i64 y1),.p (.int .i64 0),.p (.bool false),.p (.bool false),.p (.int .i64 0)]] (rb bb):=pcv;obtain⟨r,snB,hr⟩:=A4.LN;simp only[go_sem,s120,snB,eD Zn];cases bb with
   |true=>simp only[go_sem,p0,p1,p2,xA,p7,w1,aA];exact⟨ms,c,aa,ay,Iy (.two tn pR sw h8 (yh rfl)),rfl,A4.of_eq (by simp only[aP,Nat.reduceEqDiff,if_false])⟩
   |false=>
    simp only[go_sem,p7];refine uO (xs:=[aS.ps ⟨kk,av,y1,0,false,false,0⟩]) (A4.of_eq (by simp only[aP,Nat.reduceEqDiff,if_false])) (by simp only[fN,aP,if_true];rfl) (.inl rfl) (by simp only[qe,dI,fe];omega) fun c2 iR A5 kJ=>?_;simp only[go_sem,p0,p1,p2,xA,w1,aA];refine⟨ms++[⟨kk,av,y1,0,false,false,0⟩],c2,by simp;omega,fun m hm=>?_,nxt_ _ (.two tn pR sw h8 af),rfl,by rw[show mP (ms++[⟨kk,av,y1,0,false,false,0⟩])=mP ms++[aS.ps ⟨kk,av,y1,0,false,false,0⟩] by simp[mP]];exact A5⟩;rcases eO.1 hm with h|h
    .exact ay m h
    have:=lI.1 h;subst this;exact⟨rfl,rfl,rfl,rfl,rfl,hwb y1 af,af⟩
  obtain⟨y0,y1,y2,rfl⟩:=lI3 jU;by_cases h8:kk=8
  .have e8:(kk==8)=true:=by rw[h8];rfl
   simp only[go_sem,i81_r3,p1,p2,p7,Ez,mN,q32,q33,e8,bw];obtain⟨bb,yh,pcv⟩:=ab5 ms ⟨kk,av,y1,y2,false,false,0⟩ aa;have Zn:aK S 108 [.one (.p (.sl (mP ms))),.agg [.p (.int .i64 kk),.p (.int .i64 av),.p (.int .i64 y1),.p (.int .i64 y2),.p (.bool false),.p (.bool false),.p (.int .i64 0)]] (rb bb):=pcv;obtain⟨r,snB,hr⟩:=A4.LN;refine⟨aJ,?_⟩;simp only[go_sem,s120,snB,eD Zn];cases bb with
   |true=>simp only[go_sem,p0,p1,p2,xA,p7,w1,aA];exact⟨ms,c,aa,ay,Iy (.thr tn pR sw (yh rfl)),rfl,A4.of_eq (by simp only[aP,Nat.reduceEqDiff,if_false])⟩
   |false=>
    simp only[go_sem,p7];refine uO (xs:=[aS.ps ⟨kk,av,y1,y2,false,false,0⟩]) (A4.of_eq (by simp only[aP,Nat.reduceEqDiff,if_false])) (by simp only[fN,aP,if_true];rfl) (.inl rfl) (by simp only[qe,dI,fe];omega) fun c2 iR A5 kJ=>?_;simp only[go_sem,p0,p1,p2,xA,w1,aA];refine⟨ms++[⟨kk,av,y1,y2,false,false,0⟩],c2,by simp;omega,fun m hm=>?_,nxt_ _ (.thr tn pR sw af),rfl,by rw[show mP (ms++[⟨kk,av,y1,y2,false,false,0⟩])=mP ms++[aS.ps ⟨kk,av,y1,y2,false,false,0⟩] by simp[mP]];exact A5⟩;rcases eO.1 hm with h|h
    .exact ay m h
    have:=lI.1 h;subst this;exact⟨rfl,rfl,rfl,rfl,rfl,hwb y1 af,hwb y2 af⟩
  have e8:(kk==8)=false:=by simpa using h8
  simp only[go_sem,i81_r3,p0,p1,p2,xA,p7,Ez,mN,q32,q33,e8,w1,aA];exact⟨ms,c,aa,ay,Iy (.three tn h8),rfl,A4.of_eq ((bj ae).trans (bj ae))⟩
 have:k=2:=aa;subst this;have vL:¬(((2:Nat):Int)<2):=ae;have sS:S.shared 109=true:=ah;simp only[go_sem,i81_l4,i81_r5,h7,nh,vL,sS];rcases gm with⟨e,e2⟩|⟨aH,gg,e2,bm⟩
 .cases e2;have:ms=[]:=by simpa [mP]using e
  subst this;refine Xq (by rfl) (.inl rfl) (P:=Lh aj) (fun rU h2=>awr (by rw[h2];kernel_rfl)) fun v gR hP=>?_;obtain⟨rfl,rfl⟩:=hP;simp only[go_sem,h7];exact⟨_,⟨[],⟨af,(fun m h=>by cases h),hsd⟩,rfl⟩,rfl⟩
 cases e2;rw[qe]at h7 |-;refine BU bm (by rfl) (.inl rfl) (P:=LK 5185280192 gg fD ms aj) (fun rU h1 h2=>aws h1 (by rw[h2];kernel_rfl) aa (fun m hm=>(ay m hm).2.2.2.2.2) bm) fun v gR hP=>?_;obtain⟨rfl,⟨ws,bw,pw,sw⟩,kw⟩:=hP;simp only[go_sem,h7];have jU:=pw.length_eq;refine⟨_,⟨ws,⟨aa,fun m hm=>ay m (pw.mem_iff.1 hm),fun j hj=>⟨fun a b c d e f=>pw.mem_iff.2 ((hsd j hj).1 a b c d e f),fun a b c d e f g i j'=>pw.mem_iff.2 ((hsd j hj).2 a b c d e f g i j')⟩⟩,rfl⟩,?_⟩;rw[<-jU,<-qe ws];refine A6 (.inr ⟨fun e=>aH ?_,gg,rfl,bw⟩);have h0:(mP ws).length=0:=by rw[e];rfl
 rw[qe,jU]at h0;rw[GD.1 h0];rfl
def CN(k:Int)(n:Nat)(m:aS):Prop:= ∃a,a<n/\okM k a m
def Zh{k:Int}{n a:Nat}{ns:g_}(h:∀m∈ms,CN k n m)(h2:∀m∈ns,okM k a m)(ha:a<n):∀m∈ms++ns,CN k n m:=fun m hm=>(eO.1 hm).elim (h m) fun h3=>⟨a,ha,h2 m h3⟩
def CP (F:Nat)(ls:ai)(kk:Int)(ms:g_):Prop:=(kk=1\/kk=4->∀a:Nat,a<ls.length->(⟨kk,a,0,0,false,false,0⟩:aS)∈ms)/\(kk=3\/kk=6\/kk=8->∀a,a<ls.length->∀j,j<2->kA kk a (lN F ls (2*a+j)).cA ms)
def kA.pI(h:kA kk av D ms)(x:g_):kA kk av D (x++ms):=
 ⟨fun a b c d e f=>Dh _ (h.1 a b c d e f),fun a b c d e f g i j=>Dh _ (h.2 a b c d e f g i j)⟩
section
variable {F:Nat} {ls:ai}
def amA(g:ch F ls)(aH:0<ls.length)(d2:(kk==2)=false)(d5:(kk==5)=false)(d7:(kk==7)=false)(d3:(kk==3)=false)(d6:(kk==6)=false)(d8:(kk==8)=false):∃ms:g_,(ms.length<=2*ls.length/\(∀m∈ms,CN kk ls.length m)/\CP F ls kk ms)/\aK S 51 [.one (.p (fp F ls)),vi kk] (.one (aW fD 7 (mP ms))):=by
 have hlen:=g.len;have bU:(eE (pieces ls)).length=ls.length:=by rw[eE,cE,eY]
 have iV:(((ls.length:Nat):Int)==0)=false:=by rw[lS];omega
 suffices h:∃r,(∃ms:g_,(ms.length<=2*ls.length/\(∀m∈ms,CN kk ls.length m)/\CP F ls kk ms)/\r=.one (aW fD 7 (mP ms)))/\aK S 51 [.one (.p (fp F ls)),vi kk] r by obtain⟨r,⟨ms,h1,rfl⟩,h2⟩:=h;exact⟨ms,h1,h2⟩
 refine Jk rfl c51 (iH rfl) ?_;simp only[go_sem,i51,i51_r12,bU,iV];refine dD (fun k ak aj=>ak 0=.one (.p (fp F ls))/\ak 1=vi kk/\ak 41=vi ls.length/\ak 42=vi k/\ ∃ms c,ms.length<=2*k/\(∀m∈ms,CN kk ls.length m)/\(∀a:Nat,a<k->(⟨kk,a,0,0,false,false,0⟩:aS)∈ms)/\ak 5=.one c/\grown 3264768320 fD 7 (mP ms) (.one c) aj) 0 ls.length (bR _) ?_ ?_
 .simp only[go_sem];exact⟨rfl,[],.p .nils,af,fun m h=>(by cases h),fun a h=>absurd h (o9 _),rfl,grown.nil⟩
 rintro k ak aj hk ⟨h0,h1,A7,uP,ms,c,uV,ay,B0,h5,gm⟩
 by_cases aA:k<ls.length
 .have aM:((k:Int)<(ls.length:Int)):=aa;have w1:=cU (n:=k) aa;simp only[go_sem,i51_l10,i51_r9,h1,A7,uP,h5,aM,d2,d5,d7,d3,d6,d8];refine uO (xs:=[aS.ps ⟨kk,k,0,0,false,false,0⟩]) (gm.of_eq (by simp only[aP,Nat.reduceEqDiff,if_false])) (by simp only[fN,aP,if_true];rfl) (.inl rfl) (by simp only[qe,dI,fe];omega) fun c2 iR A5 kJ=>?_;simp only[go_sem,h0,h1,A7,uP,w1,aA];refine⟨ms++[⟨kk,k,0,0,false,false,0⟩],c2,by simp;omega,fun m hm=>?_,fun a ha=>?_,rfl,by rw[show mP (ms++[⟨kk,k,0,0,false,false,0⟩])=mP ms++[aS.ps ⟨kk,k,0,0,false,false,0⟩] by simp[mP]];exact A5⟩
  .rcases eO.1 hm with h|h
   .exact ay m h
   have:=lI.1 h;subst this;exact⟨k,aA,rfl,rfl,rfl,rfl,rfl,by simp[EK]⟩
  by_cases e:a=k
  .rw[e];simp
  exact Dg _ (B0 a aa)
 have:k=ls.length:=aa;subst this;simp only[go_sem,i51_l10,i51_r11,A7,uP,h5,eS];exact⟨_,⟨ms,⟨uV,ay,fun _=>B0,fun h=>by rcases h with rfl|rfl|rfl<;>simp_all⟩,rfl⟩,A6 gm⟩
def amz(g:ch F ls)(aH:0<ls.length)(w9:kk=3\/kk=6\/kk=8):∃ms:g_,(ms.length<=2*ls.length/\(∀m∈ms,CN kk ls.length m)/\CP F ls kk ms)/\aK S 51 [.one (.p (fp F ls)),vi kk] (.one (aW fD 7 (mP ms))):=by
 have hlen:=g.len;have lo:S.lone 3266944256=false:=ah;have bU:(eE (pieces ls)).length=ls.length:=by rw[eE,cE,eY]
 have iV:(((ls.length:Nat):Int)==0)=false:=by rw[lS];omega
 suffices h:∃r,(∃ms:g_,(ms.length<=2*ls.length/\(∀m∈ms,CN kk ls.length m)/\CP F ls kk ms)/\r=.one (aW fD 7 (mP ms)))/\aK S 51 [.one (.p (fp F ls)),vi kk] r by obtain⟨r,⟨ms,h1,rfl⟩,h2⟩:=h;exact⟨ms,h1,h2⟩
 have d2:(kk==2)=false:=by rw[lS];omega
 have d5:(kk==5)=false:=by rw[lS];omega
 have d7:(kk==7)=false:=by rw[lS];omega
 refine Jk rfl c51 (iH rfl) ?_;simp only[go_sem,i51,i51_r12,bU,iV];refine dD (fun k ak aj=>ak 0=.one (.p (fp F ls))/\ak 1=vi kk/\ak 41=vi ls.length/\ak 42=vi k/\ ∃ms c,ms.length<=2*k/\(∀m∈ms,CN kk ls.length m)/\(∀a,a<k->∀j,j<2->kA kk a (lN F ls (2*a+j)).cA ms)/\ak 5=.one c/\grown 3266944320 fD 7 (mP ms) (.one c) aj) 0 ls.length (bR _) ?_ ?_
 .simp only[go_sem];exact⟨rfl,[],.p .nils,af,fun m h=>(by cases h),fun a h=>absurd h (o9 _),rfl,grown.nil⟩
 rintro k ak aj hk ⟨h0,h1,A7,uP,ms,c,uV,ay,B0,h5,gm⟩
 by_cases aA:k<ls.length
 .have aM:((k:Int)<(ls.length:Int)):=aa;have w1:=cU (n:=k) aa;obtain⟨ns,⟨xf,On,Om⟩,pc⟩:=anp g kk aA;have XE:∀a,a<k+1->∀j,j<2->kA kk a (lN F ls (2*a+j)).cA (ms++ns):=fun a ha j hj=>by
   by_cases e:a=k
   .rw[e];exact(Om j hj).pI ms
   exact(B0 a aa j hj).app ns
  cases d3:(kk==3)with
  |true=>simp only[go_sem,i51_l10,i51_r9,h0,h1,A7,uP,h5,aM,d2,d5,d7,d3,s81];refine sX pc lo (.inl rfl) fun cc cF gl dE=>?_;have DT:=gm.of_eq (dE 3266944320 ae);obtain⟨r,hx,hr⟩:=gl.elems;simp only[go_sem];refine uO (xs:=mP ns) DT hx gl.iG (by simp only[qe];omega) fun c2 iR A5 kJ=>?_;simp only[go_sem,h0,h1,A7,uP,w1,aA];exact⟨ms++ns,c2,by simp;omega,Zh ay On aA,XE,rfl,by rw[show mP (ms++ns)=mP ms++mP ns by simp[mP]];exact A5⟩
  |false=>
   cases d6:(kk==6)with
   |true=>simp only[go_sem,i51_l10,i51_r9,h0,h1,A7,uP,h5,aM,d2,d5,d7,d3,d6,s81];refine sX pc lo (.inl rfl) fun cc cF gl dE=>?_;have DT:=gm.of_eq (dE 3266944320 ae);obtain⟨r,hx,hr⟩:=gl.elems;simp only[go_sem];refine uO (xs:=mP ns) DT hx gl.iG (by simp only[qe];omega) fun c2 iR A5 kJ=>?_;simp only[go_sem,h0,h1,A7,uP,w1,aA];exact⟨ms++ns,c2,by simp;omega,Zh ay On aA,XE,rfl,by rw[show mP (ms++ns)=mP ms++mP ns by simp[mP]];exact A5⟩
   |false=>
    have d8:(kk==8)=true:=by
     rcases w9 with rfl|rfl|rfl
     .cases d3
     .cases d6
     rfl
    simp only[go_sem,i51_l10,i51_r9,h0,h1,A7,uP,h5,aM,d2,d5,d7,d3,d6,d8,s81];refine sX pc lo (.inl rfl) fun cc cF gl dE=>?_;have DT:=gm.of_eq (dE 3266944320 ae);obtain⟨r,hx,hr⟩:=gl.elems;simp only[go_sem];refine uO (xs:=mP ns) DT hx gl.iG (by simp only[qe];omega) fun c2 iR A5 kJ=>?_;simp only[go_sem,h0,h1,A7,uP,w1,aA];exact⟨ms++ns,c2,by simp;omega,Zh ay On aA,XE,rfl,by rw[show mP (ms++ns)=mP ms++mP ns by simp[mP]];exact A5⟩
 have:k=ls.length:=aa;subst this;simp only[go_sem,i51_l10,i51_r11,A7,uP,h5,eS];exact⟨_,⟨ms,⟨uV,ay,fun h=>aa,fun _=>B0⟩,rfl⟩,A6 gm⟩
end
abbrev wN:Nat:=24
def axU{a:PV}{id g z o l:Nat}:Da [[.p a,.hsl id g z o l]]=none:=rfl
def anZ{aj:aC}{s g ty sd td zd:Nat}{x:Int}{cd:C}{D:s_}(hb:aj s=(g,some (.jo ty 2 [[.p (.int .i64 x),cd]])))(gd:grown sd td zd D (.one cd) aj):
  ∃fr,fN aj (.one (.hsl s g 2 0 1))=some ([[.int .i64 x,.sl D]],[s],fr)/\pG aj fr/\(fr=[]\/fr=[sd]):=by
 obtain⟨r1,n1,a1,q1⟩:=gd.Tn;refine⟨r1,?_,a1,q1⟩;simp only[fN,hb];simp[collect,n1,Tq,PV.norm]
abbrev ui(k:Int):Prop:=k5 k
def qT(F:Nat)(ls:ai)(want:d_)(m:aS):Prop:=m.k∈want/\CN m.k ls.length m/\ ∃M,pI F ls m.k m.a m.b m.c m.l m.o m.s=l7 F M
section
variable {F:Nat} {ls:ai}
def amC(g:ch F ls)(aH:0<ls.length)(h:ui kk):∃ms:g_,(ms.length<=2*ls.length/\(∀m∈ms,CN kk ls.length m)/\CP F ls kk ms)/\aK S 51 [.one (.p (fp F ls)),vi kk] (.one (aW fD 7 (mP ms))):=by
 have n2:kk≠2:=by unfold ui k5 at h;omega
 have n5:kk≠5:=by unfold ui k5 at h;omega
 have n7:kk≠7:=by unfold ui k5 at h;omega
 by_cases hc:kk=3\/kk=6\/kk=8
 .exact amz g aH hc
 exact amA g aH (lS.2 n2) (lS.2 n5) (lS.2 n7) (lS.2 fun e=>hc (.inl e)) (lS.2 fun e=>hc (.inr (.inl e))) (lS.2 fun e=>hc (.inr (.inr e)))
def CS (F:Nat)(ls:ai)(want:d_)(n:Int)(ms:g_):Prop:=∀kk∈want,1<=kk->kk<=n->∃ns,CP F ls kk ns/\ ∀m∈ns,(∃M,pI F ls m.k m.a m.b m.c m.l m.o m.s=l7 F M)->m∈ms
def CS.next{want:d_}{n:Int}(h:CS F ls want n ms)(h2:n+1∈want->∃ns,CP F ls (n+1) ns/\ ∀m∈ns,(∃M,pI F ls m.k m.a m.b m.c m.l m.o m.s=l7 F M)->m∈ms):CS F ls want (n+1) ms:=fun kk hk h1 h3=>by
 by_cases e:kk=n+1
 .subst e;exact h2 hk
 exact h kk hk h1 aa
def CS.app{want:d_}{n:Int}(h:CS F ls want n ms)(m:aS):CS F ls want n (ms++[m]):=fun kk hk h1 h3=>by obtain⟨ns,a,b⟩:=h kk hk h1 h3;exact⟨ns,a,fun m hm hM=>Dg _ (b m hm hM)⟩
def auZ{L:ai}{e:Int}(he:e≠0):l7 F L≠sD e:=fun h=>by unfold l7 sD at h;simp only[RV.tup.injEq,yR,RV.one.injEq,RC.p.injEq,PV.int.injEq,and_true,true_and]at h;exact he h.2.symm
def aju(g:ch F ls)(aH:0<ls.length)(want:d_)(jU:want.length<=10)(hw:∀k∈want,ui k):∃ms cs,(ms.length<=8000/\(∀m∈ms,qT F ls want m)/\CS F ls want 10 ms)/\aK S 24 [.one (.p (fp F ls)),.one (.p (.sl (iP want)))] (.tup [.one (aW fD 7 (mP ms)),.one (aW wN 2 cs)]):=by
 have hlen:=g.len;have nW:S.lone 1536448128=false:=ah;have xu:S.lone 1536640128=false:=ah
 suffices h:∃r,(∃ms cs,(ms.length<=8000/\(∀m∈ms,qT F ls want m)/\CS F ls want 10 ms)/\r=.tup [.one (aW fD 7 (mP ms)),.one (aW wN 2 cs)])/\aK S 24 [.one (.p (fp F ls)),.one (.p (.sl (iP want)))] r by obtain⟨r,⟨ms,cs,h1,rfl⟩,h2⟩:=h;exact⟨ms,cs,h1,h2⟩
 refine Jk rfl c24 (iH rfl) ?_;simp only[go_sem,i24];refine dD (fun k ak aj=>ak 0=.one (.p (fp F ls))/\ak 1=.one (.p (.sl (iP want)))/\ak 8=vi ((k+1:Nat):Int)/\ ∃ms cs c d,ms.length<=800*k/\cs.length<=800*k/\(∀m∈ms,qT F ls want m)/\CS F ls want ((k:Nat):Int) ms/\ak 6=.one c/\ak 7=.one d/\grown 1536768192 fD 7 (mP ms) (.one c) aj/\grown 1536768448 wN 2 cs (.one d) aj) 0 10 (bR _) ?_ ?_
 .simp only[go_sem];exact⟨rfl,[],[],.p .nils,.p .nils,af,af,fun m h=>(by cases h),fun kk _ h1 h2=>absurd h2 aa,rfl,rfl,grown.nil,grown.nil⟩
 rintro k ak aj hk ⟨e0,e1,e8,ms,cs,c,d,uV,dA,ay,Bb,e6,e7,gm,gc⟩
 by_cases aA:k<10
 .have aM:((k+1:Nat):Int)<=10:=aa;have w1:=cU (n:=k+1) aa;have ph:=ab4 want ((k+1:Nat):Int) aa;cases hc:want.contains ((k+1:Nat):Int)with
  |false=>rw[hc]at ph;simp only[go_sem,i24_l3,i24_r2,e0,e1,e6,e7,e8,aM,s50,eD ph,w1];exact⟨aA,ms,cs,c,d,aa,aa,ay,Bb.next fun h=>absurd (Ma.2 h) (by rw[show((k:Nat):Int)+1=((k+1:Nat):Int) by omega,hc];decide),rfl,rfl,gm,gc⟩
  |true=>
   have nT:((k+1:Nat):Int)∈want:=by simpa using hc
   obtain⟨ns,⟨xf,On,B0⟩,pc⟩:=amC g aH (hw _ nT);rw[hc]at ph;simp only[go_sem,i24_l3,e0,e1,e8,aM,s50,eD ph,s51];refine sX pc nW (.inl rfl) fun cc cF gl dE=>?_;have DT:=gm.of_eq (dE 1536768192 ae);have gc1:=gc.of_eq (dE 1536768448 ae);rcases gl with⟨e,e2⟩|⟨_,gg,e,sY⟩
   .cases e2;simp only[go_sem];refine sK ?_;simp only[go_sem,i24_l1,i24_r2,e0,e1,e6,e7,e8,zz,w1];exact⟨aA,ms,cs,c,d,aa,aa,ay,Bb.next fun _=>⟨ns,B0,fun m hm=>by rw[show ns=[] by simpa [mP]using e]at hm;cases hm⟩,rfl,rfl,DT,gc1⟩
   cases e;rw[qe];simp only[go_sem];refine dD (fun j ak aj=>ak 0=.one (.p (fp F ls))/\ak 1=.one (.p (.sl (iP want)))/\ak 8=vi ((k+1:Nat):Int)/\ak 23=.one (.hsl 1536448128 gg 7 0 ns.length)/\ak 24=vi ns.length/\ak 25=vi j/\aj 1536448128=(gg,some (.arr fD 7 (mP ns)))/\ ∃ms cs c d,ms.length<=800*k+j/\cs.length<=800*k+j/\(∀m∈ms,qT F ls want m)/\CS F ls want ((k:Nat):Int) ms/\(∀i,i<j->∀m,ns[i]?=some m->(∃M,pI F ls m.k m.a m.b m.c m.l m.o m.s=l7 F M)->m∈ms)/\ak 6=.one c/\ak 7=.one d/\grown 1536768192 fD 7 (mP ms) (.one c) aj/\grown 1536768448 wN 2 cs (.one d) aj) 0 ns.length (bR _) ?_ ?_
   .simp only[go_sem,e0,e1,e6,e7,e8];exact⟨rfl,sY,ms,cs,c,d,aa,aa,ay,Bb,fun i h=>absurd h (o9 _),rfl,rfl,DT,gc1⟩
   clear gm gc DT gc1 ay uV dA sY dE Bb e0 e1 e6 e7 e8;rintro j ak aj hj ⟨q0,q1,q8,vh,rM,CU,bL,ms,cs,c,d,uV,dA,ay,Bb,jL,q6,q7,gm,gc⟩
   by_cases uc:j<ns.length
   .have HR:((j:Int)<(ns.length:Int)):=aa;have w2:=cU (n:=j) aa;obtain⟨m,pQ⟩:=aL uc;have jI:=O1 pQ;have HS:=On m (aV pQ);have hkm:m.k=((k+1:Nat):Int):=HS.choose_spec.2.1;have aqk:(mP ns).length=ns.length:=qe ns;have Bj:k5 m.k:=by rw[hkm];exact hw _ nT
    have pd:=do5 g Bj m.a m.b m.c m.l m.o m.s;rcases Qm g Bj m.a m.b m.c m.l m.o m.s with⟨e,he,ha⟩|⟨M,ha,_⟩
    .rw[ha]at pd;have D0:(e==0)=false:=by simpa using he
     simp only[go_sem,i24_l1,q0,q1,q6,q7,q8,vh,rM,CU,bL,uc,HR,jI,aS.ps,s52,dr pd arD,D0,w2];exact⟨ms,cs,c,d,aa,aa,ay,Bb,fun i hi m' iU hM=>by
      by_cases ei:i=j
      .rw[ei,pQ]at iU;cases iU;obtain⟨M,hM⟩:=hM;rw[ha]at hM;exact absurd hM.symm (auZ he)
      exact jL i aa m' iU hM,rfl,rfl,gm.of_eq (by simp only[aP,Nat.reduceEqDiff,if_false]),gc.of_eq (by simp only[aP,Nat.reduceEqDiff,if_false])⟩
    have R6:qT F ls want m:=⟨by rw[hkm];exact nT,by rw[hkm];exact HS,M,ha⟩;rw[ha]at pd;simp only[go_sem,i24_l1,q0,vh,rM,CU,bL,uc,HR,jI,aS.ps,s52];refine aeI pd xu fun cx bn gx bK=>?_;have b10:=bK 1536576128 ae;simp only[go_sem]at b10;have bL2:=(bK 1536448128 ae).trans ((bj ae).trans ((bj ae).trans bL));have Hr:=gm.of_eq ((bK 1536768192 ae).trans (by simp only[aP,Nat.reduceEqDiff,if_false]));have wW:=gc.of_eq ((bK 1536768448 ae).trans (by simp only[aP,Nat.reduceEqDiff,if_false]));have KE:∀m'∈ms++[m],qT F ls want m':=fun m' h=>(eO.1 h).elim (ay m') fun h=>(lI.1 h)▸R6
    have afi:∀i,i<j+1->∀m',ns[i]?=some m'->(∃M,pI F ls m'.k m'.a m'.b m'.c m'.l m'.o m'.s=l7 F M)->m'∈ms++[m]:=fun i hi m' iU hM=>by
     by_cases ei:i=j
     .rw[ei,pQ]at iU;cases iU;simp
     exact Dg _ (jL i aa m' iU hM)
    have ae6:=Bb.app m;have xe:mP (ms++[m])=mP ms++[aS.ps m]:=by simp[mP]
    rcases gx with⟨eM,e2⟩|⟨aqp,g2,e2,hbx⟩
    .cases e2;simp only[go_sem,b10,q6];refine BO (site:=1536768192) (id:=1536768192) (bytes:=48) (xs:=[aS.ps m]) (rd:=[1536768128]) (Hr.of_eq (by simp only[aP,Nat.reduceEqDiff,if_false])) (by simp[fN,aP,aS.ps]) (.inl rfl) (by simp only[qe,dI,fe];omega) fun c' gR r1 u1 je ig ke=>?_;have MA:=ig 1536640384 ae ae;simp only[go_sem]at MA;simp only[go_sem,MA,q7];have Kh:=wW.of_eq ((ig 1536768448 ae ae).trans (by simp only[aP,Nat.reduceEqDiff,if_false]:_=bn 1536768448));refine BO (site:=1536768448) (id:=1536768448) (bytes:=32) (xs:=[[.int .i64 F,.sl []]]) (rd:=[1536768384]) (Kh.of_eq (bj ae)) (by simp[fN,aP]) (.inl rfl) (by simp only[dI,fe];omega) fun d' iR r2 u2 vJ kJ uY=>?_
     have MD:=(kJ 1536448128 ae ae).trans ((bj ae).trans (ig 1536448128 ae ae));simp only[aP,Nat.reduceEqDiff,if_false]at MD;have bL5:=MD.trans bL2;simp only[go_sem,q0,q1,q6,q7,q8,vh,rM,CU,bL5,w2,uc];refine⟨?_,ms++[m],_,c',d',by simp;omega,by simp;omega,KE,ae6,afi,rfl,rfl,?_,vJ⟩
     .rcases ke with⟨rfl,rfl⟩|⟨rfl,rfl⟩|⟨rfl,rfl⟩<;>rcases uY with⟨rfl,rfl⟩|⟨rfl,rfl⟩|⟨rfl,rfl⟩<;>kernel_rfl
     rw[xe];exact je.of_eq ((kJ 1536768192 ae ae).trans (bj ae))
    cases e2;simp only[go_sem,b10,q6];refine BO (site:=1536768192) (id:=1536768192) (bytes:=48) (xs:=[aS.ps m]) (rd:=[1536768128]) (Hr.of_eq (by simp only[aP,Nat.reduceEqDiff,if_false])) (by simp[fN,aP,aS.ps]) (.inl rfl) (by simp only[qe,dI,fe];omega) fun c' gR r1 u1 je ig ke=>?_;have MA:=ig 1536640384 ae ae;simp only[go_sem]at MA;simp only[go_sem,MA,q7];have bx3:=(ig (1536640128+1) ae ae);simp only[Nat.reduceAdd,aP,Nat.reduceEqDiff,if_false]at bx3 hbx;have hx3:=bx3.trans hbx;have gx3:grown (1536640128+1) mO 6 (dZ M) (.one (.hsl (1536640128+1) g2 6 0 M.length)) gR:=.inr ⟨aqp,g2,by rw[dZ,cE],hx3⟩
    obtain⟨fr,hx,Ca,HK⟩:=anZ (aj:=eh gR 1536768384 ((gR 1536768384).1+1,some (.jo wN 2 [[.p (.int .i64 F),.hsl (1536640128+1) g2 6 0 M.length]]))) (s:=1536768384) Ak (gx3.of_eq (bj ae));have Kh:=wW.of_eq ((ig 1536768448 ae ae).trans (by simp only[aP,Nat.reduceEqDiff,if_false]:_=bn 1536768448));have nf:∀i,i≠1536640128+1->i∉fr:=fun i a h=>by
     rcases HK with rfl|rfl
     .cases h
     exact a (lI.1 h)
    refine anB (site:=1536768448) (id:=1536768448) (bytes:=32) (Kh.of_eq (bj ae)) hx Ca (nf _ ae) (nf _ ae) (.inl rfl) (by simp only[dI,fe];omega) fun d' iR r2 u2 vJ kJ uY=>?_;have MD:=(kJ 1536448128 ae ae (nf _ ae)).trans ((bj ae).trans (ig 1536448128 ae ae));simp only[aP,Nat.reduceEqDiff,if_false]at MD;have bL5:=MD.trans bL2;simp only[go_sem,q0,q1,q6,q7,q8,vh,rM,CU,bL5,w2,uc];refine⟨?_,ms++[m],_,c',d',by simp;omega,by simp;omega,KE,ae6,afi,rfl,rfl,?_,vJ⟩
    .rcases HK with rfl|rfl<;>rcases ke with⟨rfl,rfl⟩|⟨rfl,rfl⟩|⟨rfl,rfl⟩<;>rcases uY with⟨rfl,rfl⟩|⟨rfl,rfl⟩|⟨rfl,rfl⟩<;>kernel_rfl
    rw[xe];exact je.of_eq ((kJ 1536768192 ae ae (nf _ ae)).trans (bj ae))
   have:j=ns.length:=aa;subst this;simp only[go_sem,i24_l1,i24_r2,q0,q1,q6,q7,q8,rM,CU,eS,w1];exact⟨aA,ms,cs,c,d,aa,aa,ay,Bb.next fun _=>⟨ns,B0,fun m hm hM=>by obtain⟨i,hi⟩:=gV hm;exact jL i (aT.1 hi).1 m hi hM⟩,rfl,rfl,gm,gc⟩
 have:k=10:=aa;subst this;have j9:¬(((10+1:Nat):Int)<=10):=ae;simp only[go_sem,i24_l3,i24_r4,e6,e7,e8,j9];exact⟨_,⟨ms,cs,⟨uV,ay,Bb⟩,rfl⟩,Rp ae gm gc⟩
def awp(g:ch F ls)(aH:0<ls.length)(want:d_)(jU:want.length<=10)(hw:∀k∈want,ui k):∃ms cs,(ms.length<=8000/\ ∀m∈ms,qT F ls want m)/\aK S 24 [.one (.p (fp F ls)),.one (.p (.sl (iP want)))] (.tup [.one (aW fD 7 (mP ms)),.one (aW wN 2 cs)]):=by obtain⟨ms,cs,⟨h1,h2,_⟩,h⟩:=aju g aH want jU hw;exact⟨ms,cs,⟨h1,h2⟩,h⟩
end
def Yw{l:c_}{drop:Nat->Pc->Bool}{i:Nat}{p:Pc}(hp:l[i]?=some p)(hd:drop i p=true):(qP l drop).length<l.length:=by
 have hi:=(aT.1 hp).1;have key:∀k,k<=l.length->i<k->(u6 l drop k).length<k:=by
  intro k
  induction k with
  |zero=>intro _ h;exact absurd h (o9 i)
  |succ k ih=>
   intro hk hik;by_cases e:i=k
   .subst e;rw[Cx hp hd];have:=Il l drop i;omega
   obtain⟨q,hq⟩:=aL (ls:=l) (k:=k) aa;have:=ih aa aa;cases zH:drop k q
   .rw[KW hq zH,fS];simp only[dI,fe];omega
   rw[Cx hq zH];omega
 exact key l.length (bY _) hi
def aed{q:Let->Bool}(l:c_):aq q (dO l)=l.countP fun p=>q p.l:=by
 have e:aq q (l.map Pc.l)=l.countP fun p=>q p.l:=by show List.countP _ (List.map _ _)=_;rw[yS];rfl
 rw[<-e];have hf:(tV l).getD 0<=l.length:=by
  cases h:tV l with
  |none=>exact bR _
  |some f=>have:=Jf h;simp at this;simp only[oE];omega
 unfold dO;rw[Td hf];show List.countP _ _=List.countP _ _;rw[kS,xJ,Ml,<-xJ,<-kS,mU]
section
variable {F:Nat} {ls:ai}
def asV{k:Int}(hk:k=1\/k=4\/k=6){a b c:Nat}{l o:Bool}{sg:Int}(ha:a<ls.length){L:c_}(h:qh F ls k a b c l o sg=some L):L.length<ls.length:=by
 obtain⟨p,hp⟩:=aL (ls:=pieces ls) (k:=a) (by rw[eY];exact ha);have bU:=eY ls;have hg:(pieces ls).getD a ⟨lQ,false⟩=p:=by simp[dC,hp]
 rcases hk with rfl|rfl|rfl
 .have h:uC ls a=some L:=h;unfold uC at h;simp only at h;split at h
  .cases h;show(List.map _ _).length<_;rw[cE,<-bU];exact Yw hp af
  cases h
 .have h:u7 ls a=some L:=h;unfold u7 at h;simp only at h;rw[hg]at h;split at h
  .rename_i hc;cases h;show(List.map _ _).length<_;rw[cE,<-bU];simp only[cH]at hc;exact Yw hp (by unfold vB;rw[hc.1];simp)
  cases h
 have h:vg F ls a b=some L:=h;unfold vg at h;rw[iY hp]at h;split at h
 .rename_i hc;cases h;show(List.map _ _).length<_;rw[cE,<-bU];have jr:(p.l.kind==2)=true:=by
   simp only[cH,wE]at hc;unfold iA at hc;rw[iY hp]at hc;simp only[cH]at hc;rcases hc.1 with h|h
   .exact h.1.1
   exact h.1.1
  exact Yw hp (by unfold vB;rw[jr];simp)
 cases h
def anw(g:ch F ls){want:d_}{m:aS}(hm:qT F ls want m)(hk:m.k=1\/m.k=4\/m.k=6):∃M,pI F ls m.k m.a m.b m.c m.l m.o m.s=l7 F M/\cG F M=0/\M.length<ls.length/\aq Let.aE M<=aq Let.aE ls/\aq Let.aB M<=aq Let.aB ls:=by
 obtain⟨_,⟨av,ha,_,ea,_⟩,M0,e0⟩:=hm;have Bj:k5 m.k:=by unfold k5;omega
 rcases Qm g Bj m.a m.b m.c m.l m.o m.s with⟨e,he,h⟩|⟨M,h,hc,_,L,hL,rfl⟩
 .rw[e0]at h;unfold l7 sD at h;simp only[RV.tup.injEq,yR,RV.one.injEq,RC.p.injEq,PV.int.injEq,and_true,true_and]at h;exact absurd h.2.symm he
 rw[ea,qu]at hL;have bU:=eY ls;have aA:=asV hk ha hL;have hb:m.b.toNat<ls.length\/(m.k≠3/\m.k≠8):=.inr ⟨aa,aa⟩;have uQ:m.c.toNat<ls.length\/m.k≠8:=.inr aa;have kC:Im (fun p=>p.l.aB):=fun p p' h=>by show(p.l.kind==2)=(p'.l.kind==2);rw[h]
 have kP:Im (fun p=>p.l.aE):=fun p p' h=>by show(p.l.kind==1)=(p'.l.kind==1);rw[h]
 have pq:∀q:Let->Bool,(pieces ls).countP (fun p=>q p.l)=aq q ls:=fun q=>by rw[<-Pd (ls:=ls) q];show _=List.countP _ (List.map _ _);rw[yS];rfl
 have c1:=SA g kP Bj ha hb uQ hL;have c2:=SA g kC Bj ha hb uQ hL;rw[pq]at c1 c2;exact⟨_,h,hc,by rw[Ra];exact aA,by rw[aed];exact c1,by rw[aed];exact c2⟩
end
section
variable {F:Nat}
def amB{k:Int}(hk:(k==2)=false):aK S 51 [.one (.p (fp F [])),vi k] (.one (aW fD 7 [])):=by have bU:(eE (pieces [])).length=0:=rfl;have h7:(((0:Nat):Int)==0)=true:=ae;refine bt c51 ?_;simp only[go_sem,i51,i51_r12,bU,h7,hk];refine sK ?_;simp only[go_sem,i51_l10,i51_r11,zz];rfl
def awn(want:d_)(jU:want.length<=10)(hw:∀k∈want,ui k):aK S 24 [.one (.p (fp F [])),.one (.p (.sl (iP want)))] (.tup [.one (aW fD 7 []),.one (aW wN 2 [])]):=by
 have nW:S.lone 1536448128=false:=ah;refine bt c24 ?_;simp only[go_sem,i24];refine dD (fun k ak aj=>ak 0=.one (.p (fp F []))/\ak 1=.one (.p (.sl (iP want)))/\ak 8=vi ((k+1:Nat):Int)/\ak 6=.one (.p .nils)/\ak 7=.one (.p .nils)) 0 10 (bR _) ?_ ?_
 .simp only[go_sem];rfl
 rintro k ak aj hk ⟨e0,e1,e8,e6,e7⟩
 by_cases aA:k<10
 .have aM:((k+1:Nat):Int)<=10:=aa;have w1:=cU (n:=k+1) aa;have ph:=ab4 want ((k+1:Nat):Int) aa;cases hc:want.contains ((k+1:Nat):Int)with
  |false=>rw[hc]at ph;simp only[go_sem,i24_l3,i24_r2,e0,e1,e6,e7,e8,aM,s50,eD ph,w1];exact aA
  |true=>
   have nT:((k+1:Nat):Int)∈want:=by simpa using hc
   have pc:=amB (F:=F) (k:=((k+1:Nat):Int)) (lS.2 (by have:=hw _ nT;unfold ui k5 at this;omega));rw[hc]at ph;simp only[go_sem,i24_l3,e0,e1,e8,aM,s50,eD ph,s51];refine sX pc nW (.inl rfl) fun cc cF gl dE=>?_;rcases gl with⟨e,e2⟩|⟨h,_⟩
   .cases e2;simp only[go_sem];refine sK ?_;simp only[go_sem,i24_l1,i24_r2,e0,e1,e6,e7,e8,zz,w1];exact aA
   exact absurd rfl h
 have:k=10:=aa;subst this;have j9:¬(((10+1:Nat):Int)<=10):=ae;simp only[go_sem,i24_l3,i24_r4,e6,e7,e8,j9];rfl
end
section
variable {F:Nat} {ls:ai}
def abM(h:cG (F:Int) []=0):F<=40:=by
 unfold cG at h;rw[au ae]at h;by_cases hf:(F:Int)<0\/40<(F:Int)
 .rw[aD hf]at h;cases h
 omega
def awo(h:cG (F:Int) ls=0)(want:d_)(jU:want.length<=10)(hw:∀k∈want,ui k):∃ms cs,(ms.length<=8000/\ ∀m∈ms,qT F ls want m)/\aK S 24 [.one (.p (fp F ls)),.one (.p (.sl (iP want)))] (.tup [.one (aW fD 7 (mP ms)),.one (aW wN 2 cs)]):=by
 by_cases aH:ls=[]
 .subst aH;exact⟨[],[],⟨af,fun m h=>by cases h⟩,awn want jU hw⟩
 obtain⟨G,e,g⟩:=qG h aH;have:F=G:=aa;subst this;exact awp g (jl.2 aH) want jU hw
def atc(h:cG (F:Int) ls=0):aK S 23 [ez F ls] (Bx (fp F ls) (.int .i64 0)):=by
 by_cases aH:ls=[]
 .subst aH;exact ata (abM h)
 obtain⟨G,e,g⟩:=qG h aH;have:F=G:=aa;subst this;exact Zi g
def Qe(h:cG (F:Int) ls=0)(want:d_)(jU:want.length<=10)(hw:∀k∈want,ui k):∃ms,(ms.length<=8000/\ ∀m∈ms,qT F ls want m)/\aK S 7 [ez F ls,.one (.p (.sl (iP want)))] (.tup [.one (aW fD 7 (mP ms)),.one (.p (.int .i64 0))]):=by obtain⟨ms,cs,hm,ps⟩:=awo h want jU hw;have po:=atc h;have lo:S.lone 448256128=false:=ah;refine⟨ms,hm,?_⟩;refine bt c7 ?_;simp only[go_sem,i7,s23,dr po iM,s24];refine aeH ps lo fun c d cF gc gd hb=>?_;simp only[go_sem];exact zn gc
def akT(g:ch F ls)(want:d_)(jU:want.length<=10)(hw:∀k∈want,ui k):∃ms,(ms.length<=8000/\(∀m∈ms,qT F ls want m)/\CS F ls want 10 ms)/\aK S 7 [ez F ls,.one (.p (.sl (iP want)))] (.tup [.one (aW fD 7 (mP ms)),.one (.p (.int .i64 0))]):=by obtain⟨ms,cs,hm,ps⟩:=aju g (jl.2 g.ne) want jU hw;have po:=Zi g;have lo:S.lone 448256128=false:=ah;refine⟨ms,hm,?_⟩;refine bt c7 ?_;simp only[go_sem,i7,s23,dr po iM,s24];refine aeH ps lo fun c d cF gc gd hb=>?_;simp only[go_sem];exact zn gc
abbrev sE:d_:=[1,4,6]
def Pm:∀k∈sE,ui k:=by intro k h;simp only[bJ,eo,or_false]at h;unfold ui k5;omega
abbrev LD(m:aS)(b:Bool):RV:=.tup [.agg (m.ps.map .p),.one (.p (.bool b))]
def Tg(ms:g_):((mP ms).all fun e=>e.all PV.scalar)=true:=by rw[gk];intro e he;obtain⟨i,_,rfl⟩:=cJ.1 he;rfl
abbrev TN:aS:=⟨0,0,0,0,false,false,0⟩
def aiE(h:cG (F:Int) ls=0):(∃m,qT F ls sE m/\(¬aK S 7 [ez F ls,.one (.p (.sl (iP sE)))] (.tup [.one (aW fD 7 []),.one (.p (.int .i64 0))]))/\aK S 27 [ez F ls] (LD m true))\/(aK S 7 [ez F ls,.one (.p (.sl (iP sE)))] (.tup [.one (aW fD 7 []),.one (.p (.int .i64 0))])/\aK S 27 [ez F ls] (LD TN false)):=by
 obtain⟨ms,⟨_,hm⟩,ps⟩:=Qe h sE ae Pm;have ps':aK S 7 [ez F ls,.one (.p (.sl [[.int .i64 1],[.int .i64 4],[.int .i64 6]]))] (.tup [.one (aW fD 7 (mP ms)),.one (.p (.int .i64 0))]):=ps;have lo:S.lone 1728064128=false:=ah;cases ms with
 |nil=>
  refine .inr ⟨ps,?_⟩;refine bt c27 ?_;simp only[go_sem,i27,s7];refine aeG ps' lo (Tg _) rfl fun c cF gc hb=>?_;have b2:=hb 1728000064 ae;simp only[go_sem]at b2;rcases gc with⟨_,e2⟩|⟨h,_⟩
  .cases e2;have Nx:(((0:Nat):Int)==0)=true:=ae;simp only[go_sem,Nx,b2];rfl
  exact absurd rfl h
 |cons m r=>
  refine .inl ⟨m,hm m af,(fun h=>by have:=ps.AX h;simp[aW]at this),?_⟩
  refine bt c27 ?_;simp only[go_sem,i27,s7];refine aeG ps' lo (Tg _) rfl fun c cF gc hb=>?_;have b2:=hb 1728000064 ae;simp only[go_sem]at b2;rcases gc with⟨h,_⟩|⟨_,gg,e2,hC⟩
  .cases h
  cases e2;have hl:(mP (m::r)).length=r.length+1:=by simp[mP]
  have Nx:(((r.length+1:Nat):Int)==0)=false:=by rw[lS];omega
  have aA:0<r.length+1:=aa;have jI:(mP (m::r))[0]?=some m.ps:=rfl;rw[hl];generalize mP (m::r)=es at*;simp only[go_sem,Nx,b2,hC,jI,aA,aS.ps];rfl
end
def ape{Q:dX}{ak:Env}{aj:aC}{os:h_}{d:w_}{f:Nat}{vs:e_}{s t1 z1 t2 z2:Nat}{rd:a_}{es fs:s_}{x:PV}(hp:aK S f vs (.tup [.agg [.p x,aW t1 z1 es],.one (aW t2 z2 fs)]))(eL:S.lone s=false)(hx:x.scalar=true)
  (a1:(es.all fun e=>e.all PV.scalar)=true) (a2:(fs.all fun e=>e.all PV.scalar)=true)
  (hK:∀(c e:C) ao,grown (s+1) t1 z1 es (.one c) ao->grown (s+2) t2 z2 fs (.one e) ao->(∀i,i≠s+1->i≠s+2->ao i=aj i)->RN S .all os Q (put ak d (.tup [.agg [.p x,c],.one e])) ao):gP S .all (.pc f vs rd s) d os Q ak aj:=by
 obtain⟨h1,h2,_⟩:=uh (aj:=aj) (s:=s+1) (ty:=t1) (z:=z1) (es:=es);have e0:∀(b b':aC) (k:Nat) (r:RC),b' k=b k->dw b k r=dw b' k r:=by
  intro b b' k r h;cases r with
  |p v=>rfl
  |own ty sz es=>simp only[dw,h]
 have e2:dw aj (s+2) (aW t2 z2 fs)=dw (app (dw aj (s+1) (aW t1 z1 es)).2 aj) (s+2) (aW t2 z2 fs):=e0 _ _ _ _ (h2 (s+2) aa);obtain⟨k1,k2,_⟩:=uh (aj:=app (dw aj (s+1) (aW t1 z1 es)).2 aj) (s:=s+2) (ty:=t2) (z:=z2) (es:=fs);rw[<-e2]at k1 k2;have Hz:∀(a b:l_) (c:aC),app (a++b) c=app b (app a c):=by
  intro a
  induction a with
  |nil=>intro b c;rfl
  |cons x a ih=>intro b c;exact ih b _
 have gT:(RV.tup [.agg [.p x,aW t1 z1 es],.one (aW t2 z2 fs)]).alone=true:=by
  have a:=rV (ty:=t1) (z:=z1) a1;have b:=rV (ty:=t2) (z:=z2) a2;have KQ:(RV.one (.p x)).alone=true:=by show(x.scalar&&true)=true;rw[hx];rfl
  skip
  simp only[RV.alone,iu,iJ,nI,qY,yQ]at a b KQ;simp only[RV.alone,iu,ng,iJ,nJ,gn,jG,nI,qY,yQ,a,b,KQ]
 refine(dr (v:=.tup [.agg [.p x,(dw aj (s+1) (aW t1 z1 es)).1],.one (dw aj (s+2) (aW t2 z2 fs)).1]) (u:=(dw aj (s+1) (aW t1 z1 es)).2++(dw aj (s+2) (aW t2 z2 fs)).2) hp ?_).2 (hK _ _ _ ?_ ?_ ?_)
 .rw[eL,xB];unfold land;rw[aD (.inr gT)];simp[jO,iu,ng,iJ,jt,rQ,sH,mS,dw]
 .rw[Hz];exact h1.of_eq (k2 (s+1) aa)
 .rw[Hz];exact k1
 intro i a b;rw[Hz,k2 i b,h2 i a]
def ah0{s1 t1 z1 s2 t2 z2:Nat}{es fs:s_}{c d:C}{x:PV}{aj:aC}(hs:s1≠s2)(h:grown s1 t1 z1 es (.one c) aj)(h':grown s2 t2 z2 fs (.one d) aj):jk aj (.tup [.agg [.p x,c],.one d])=some (.tup [.agg [.p x,aW t1 z1 es],.one (aW t2 z2 fs)]):=by obtain⟨c',o,hc,h2,h3⟩:=h.jW;cases hc;obtain⟨d',q,hd,k2,k3⟩:=h'.jW;cases hd;have e1:jW aj (.p x)=some (.p x,[],[]):=rfl;rcases h3 with rfl|rfl<;>rcases k3 with rfl|rfl<;>simp[jk,tW,vE,oL,nC,h2,k2,e1,apart,wx,tE,Bw,hs]
def St{aj:aC}{rd:a_}{s:Nat}{m:aS}{b:Bool}{l:Bool}:land aj rd s ((LD m b).gj l)=some (.tup [.agg [.p (.int .i64 m.k),.p (.int .i64 m.a),.p (.int .i64 m.b),.p (.int .i64 m.c),.p (.bool m.l),.p (.bool m.o),.p (.int .i64 m.s)],.one (.p (.bool b))],[]):=by cases l<;>(unfold land;rw[aD (.inr rfl)];rfl)
def Ix(F:Nat)(L:ai):Prop:=aK S 7 [ez F L,.one (.p (.sl (iP sE)))] (.tup [.one (aW fD 7 []),.one (.p (.int .i64 0))])
def ar2:∀ {A B:ai},dZ A=dZ B->A=B:=by
 intro A
 induction A with
 |nil=>intro B h;cases B with
  |nil=>rfl
  |cons _ _=>cases h
 |cons a A ih=>
  intro B h;cases B with
  |nil=>cases h
  |cons b B=>have h:a.ps::dZ A=b.ps::dZ B:=h;rw[yR]at h;rw[ih h.2];have h1:=h.1;cases a;cases b;simp only[Let.ps,yR,PV.int.injEq,PV.bool.injEq,and_true,true_and]at h1;obtain⟨rfl,rfl,rfl,rfl,rfl,rfl⟩:=h1;rfl
def au1{A B:ai}(h:l7 F A=l7 F B):A=B:=by
 unfold l7 at h;simp only[RV.tup.injEq,yR,RV.agg.injEq,and_true,true_and]at h;unfold aW at h;by_cases hA:dZ A=[]
 .by_cases hB:dZ B=[]
  .rw[aav.1 hA,aav.1 hB]
  rw[aD hA,au hB]at h;cases h
 by_cases hB:dZ B=[]
 .rw[au hA,aD hB]at h;cases h
 rw[au hA,au hB]at h;simp only[RC.own.injEq,true_and]at h;exact ar2 h
def Ta{L:ai}{e:Int}(he:e≠0):l7 F L≠sD e:=fun h=>by unfold l7 sD at h;simp only[RV.tup.injEq,yR,RV.one.injEq,RC.p.injEq,PV.int.injEq,and_true,true_and]at h;exact he h.2.symm
def Ut{M:ai}(aH:ls≠[]){m:aS}(h:pI F ls m.k m.a m.b m.c m.l m.o m.s=l7 F M):fg F ls m=some M:=by
 unfold fg;rw[au aH];unfold pI at h;by_cases hA:di F ls m.k m.a m.b m.c m.l m.o m.s=true
 .rw[aD hA]at h |-;cases hM:qh F ls m.k m.a.toNat m.b.toNat m.c.toNat m.l m.o m.s with
  |none=>rw[hM]at h;exact absurd h.symm (Ta ae)
  |some L=>
   rw[hM]at h;dsimp only;by_cases hc:(400:Int)<(ls.length:Int)+(mK m.k).1\/(100:Int)<((aq Let.aB ls/2:Nat):Int)+(mK m.k).2
   .have e2:AZ F ls m.k (some L)=sD 7:=aD hc;rw[e2]at h;exact absurd h.symm (Ta ae)
   have e2:AZ F ls m.k (some L)=l7 F (dO L):=au hc;rw[e2]at h;rw[au hc,au1 h]
 rw[au hA]at h;exact absurd h.symm (Ta ae)
structure Dn (F:Nat) (ls:ai) (ms:g_) (L:ai):Prop where
 len:L.length+ms.length<=ls.length
 chk:cG (F:Int) L=0
 rep:rO F ls ms=some L
 kind:∀m∈ms,m.k∈sE
def UE(F:Nat)(ls:ai)(ms:g_)(L:ai)(c:C)(aj:aC):Prop:=(c=.p (dd L)/\ms=[]/\L=ls)\/grown 1600320129 mO 6 (dZ L) (.one c) aj
def UE.snap{L:ai}{c:C}{aj:aC}(h:UE F ls ms L c aj):∃r,∀B:aC,B 1600320129=aj 1600320129->Go.Abs.snap B gG c=some (dd L,r):=by
 rcases h with⟨rfl,_,_⟩|h
 .exact⟨[],fun B _=>rfl⟩
 obtain⟨r,h1,_⟩:=h.LN;exact⟨r,h1⟩
def Dn.step{L:ai}{m:aS}(h:Dn F ls ms L)(h4:ls.length<=400)(hm:qT F L sE m):∃M,aK S 44 [ez F L,Iv m] (l7 F M)/\Dn F ls (ms++[m]) M:=by
 have aH:L≠[]:=by obtain⟨_,⟨a,ha,_⟩,_⟩:=hm;intro e;rw[e]at ha;exact absurd ha (o9 a)
 obtain⟨G,e,g⟩:=qG h.chk aH;have:F=G:=aa;subst this;have hk:m.k=1\/m.k=4\/m.k=6:=by
  have:=hm.1
  simpa using this
 obtain⟨M,ha,hc,aA,_,_⟩:=anw g hm hk;have Bj:k5 m.k:=by unfold k5;omega
 have pa:=abd g Bj m.a m.b m.c m.l m.o m.s;rw[ha]at pa;have hl:=h.len;refine⟨M,pa,⟨by rw[fS];simp only[dI,fe];omega,hc,by rw[aiJ m h.rep];exact Ut aH ha,fun x hx=>?_⟩⟩;rcases eO.1 hx with h1|h1
 .exact h.kind x h1
 rw[lI.1 h1];exact hm.1
def Dn.start(h:cG (F:Int) ls=0):Dn F ls [] ls:=⟨bY _,h,rfl,fun m h=>(by cases h)⟩
def ZC(F:Nat)(ls:ai)(ms:g_)(M:ai)(r:RV):Prop:=(ms=[]/\M=ls/\r=.tup [.agg [.p (.int .i64 F),.p (dd ls)],.one (.p .nils)])\/r=.tup [.agg [.p (.int .i64 F),aW mO 6 (dZ M)],.one (aW fD 7 (mP ms))]
def auJ(uR:cG (F:Int) ls=0)(hlen:ls.length<=400):∃r,(∃ms M,Dn F ls ms M/\Ix F M/\ZC F ls ms M r)/\aK S 25 [ez F ls] r:=by
 have nW:S.lone 1600320128=false:=ah;have red:∀L,cG (F:Int) L=0->∃m b,aK S 27 [ez F L] (LD m b)/\(b=true->qT F L sE m)/\(b=false->Ix F L):=by
  intro L h;rcases aiE h with⟨m,h1,_,h2⟩|⟨h1,h2⟩
  .exact⟨m,true,h2,fun _=>h1,fun h=>(by cases h)⟩
  exact⟨TN,false,h2,fun h=>(by cases h),fun _=>h1⟩
 refine Jk rfl c25 (iH rfl) ?_;obtain⟨m0,b0,pr0,k1,k2⟩:=red ls uR;simp only[go_sem,i25,s27,dr pr0 St];refine dD (fun k ak aj=>∃L ms c d m b gm idm,(idm=1600128320\/idm=1600512000)/\ak 1=.one (.aZ 1600000000 1 0)/\ak 2=.one (.aZ 1600000064 1 0)/\aj 1600000064=(1,some (.var [.p (.int .i64 0),.p .nils]))/\ak 6=.one (.p (.bool b))/\ak 4=.one d/\ak 5=.one (.aZ idm gm 0)/\aj idm=(gm,some (.var (m.ps.map .p)))/\aj 1600000000=(1,some (.var [.p (.int .i64 F),c]))/\UE F ls ms L c aj/\grown 1600384192 fD 7 (mP ms) (.one d) aj/\ms.length=k/\Dn F ls ms L/\(b=true->qT F L sE m)/\(b=false->Ix F L)) 0 ls.length (bR _) ?_ ?_
 .simp only[go_sem];refine⟨ls,[],.p (dd ls),.p .nils,m0,b0,1,1600128320,.inl rfl,?_⟩;exact⟨rfl,rfl,rfl,rfl,rfl,.inl ⟨rfl,rfl,rfl⟩,grown.nil,rfl,Dn.start uR,k1,k2⟩
 rintro k ak aj hk ⟨L,ms,c,d,m,b,gm,idm,hid,h1,h2,bZ,h6,h4,h5,bm,b0,hc,gp,HS,hR,ay,dR⟩
 rcases hid with rfl|rfl
 .have hcB:=hc;obtain⟨rd,nv⟩:=hcB.snap;simp only[aS.ps,ek,kU]at bm;cases b with
  |false=>
   simp only[go_sem,i25_l1,i25_r2,h1,h2,h4,h6,b0,bZ];rcases hc with⟨rfl,rfl,rfl⟩|gc
   .rcases gp with⟨_,e2⟩|⟨aH,_⟩
    .cases e2;exact⟨_,⟨[],_,hR,dR rfl,.inl ⟨rfl,rfl,rfl⟩⟩,rfl⟩
    exact absurd rfl aH
   exact⟨_,⟨ms,L,hR,dR rfl,.inr rfl⟩,ah0 ae (gc.of_eq (bj ae)) (gp.of_eq (bj ae))⟩
  |true=>
   obtain⟨M,pa,Hx⟩:=hR.step hlen (ay rfl);obtain⟨m2,b2,pr2,k1,k2⟩:=red M Hx.chk;have aqm:=hR.len;simp only[go_sem,i25_l1,h1,h5,h6,bm,b0,nv,s44];refine aeJ pa nW rfl rfl (LH _) fun cc cF gc hb=>?_;have q0:=hb 1600000000 ae;have q1:=hb 1600128320 ae;have q2:=hb 1600000064 ae;simp only[go_sem,b0,bm,bZ]at q0 q1 q2;have Ht:=gp.of_eq (hb 1600384192 ae);simp only[go_sem,h1,h4,h5,q0,q1];refine uO (xs:=[aS.ps m]) (Ht.of_eq (by simp only[aP,Nat.reduceEqDiff,if_false])) (by simp only[fN,aP,if_true];rfl) (.inl rfl) (by simp only[qe,dI,fe];omega) fun d2 bn gp2 bK=>?_
   have r0:=bK 1600000000 ae ae;have r1:=bK 1600128320 ae ae;have r2:=bK 1600000064 ae ae;simp only[go_sem,q0,q1,q2]at r0 r1 r2;have wW:grown 1600320129 mO 6 (dZ M) (.one cc) bn:=(show grown 1600320129 mO 6 (dZ M) (.one cc) cF from gc).of_eq ((bK 1600320129 ae ae).trans (by simp only[aP,Nat.reduceEqDiff,if_false]));obtain⟨rd2,fO,_⟩:=wW.LN;simp only[go_sem,h1,h2,h4,h5,h6,r0,r1,r2,fO,s27,dr pr2 St];have ti:=Hx.len;rw[fS]at ti
   simp only[dI,fe]at ti;refine⟨aa,M,ms++[m],cc,d2,m2,b2,_,1600512000,.inr rfl,rfl,rfl,rfl,aD rfl,rfl,.inr (wW.of_eq (by simp only[aP,Nat.reduceEqDiff,if_false])),?_,by simp[HS],Hx,k1,k2⟩;rw[show mP (ms++[m])=mP ms++[aS.ps m] by simp[mP]];exact gp2.of_eq (by simp only[aP,Nat.reduceEqDiff,if_false])
 have hcB:=hc;obtain⟨rd,nv⟩:=hcB.snap;simp only[aS.ps,ek,kU]at bm;cases b with
 |false=>
  simp only[go_sem,i25_l1,i25_r2,h1,h2,h4,h6,b0,bZ];rcases hc with⟨rfl,rfl,rfl⟩|gc
  .rcases gp with⟨_,e2⟩|⟨aH,_⟩
   .cases e2;exact⟨_,⟨[],_,hR,dR rfl,.inl ⟨rfl,rfl,rfl⟩⟩,rfl⟩
   exact absurd rfl aH
  exact⟨_,⟨ms,L,hR,dR rfl,.inr rfl⟩,ah0 ae (gc.of_eq (bj ae)) (gp.of_eq (bj ae))⟩
 |true=>
  obtain⟨M,pa,Hx⟩:=hR.step hlen (ay rfl);obtain⟨m2,b2,pr2,k1,k2⟩:=red M Hx.chk;have aqm:=hR.len;simp only[go_sem,i25_l1,h1,h5,h6,bm,b0,nv,s44];refine aeJ pa nW rfl rfl (LH _) fun cc cF gc hb=>?_;have q0:=hb 1600000000 ae;have q1:=hb 1600512000 ae;have q2:=hb 1600000064 ae;simp only[go_sem,b0,bm,bZ]at q0 q1 q2;have Ht:=gp.of_eq (hb 1600384192 ae);simp only[go_sem,h1,h4,h5,q0,q1];refine uO (xs:=[aS.ps m]) (Ht.of_eq (by simp only[aP,Nat.reduceEqDiff,if_false])) (by simp only[fN,aP,if_true];rfl) (.inl rfl) (by simp only[qe,dI,fe];omega) fun d2 bn gp2 bK=>?_
  have r0:=bK 1600000000 ae ae;have r1:=bK 1600512000 ae ae;have r2:=bK 1600000064 ae ae;simp only[go_sem,q0,q1,q2]at r0 r1 r2;have wW:grown 1600320129 mO 6 (dZ M) (.one cc) bn:=(show grown 1600320129 mO 6 (dZ M) (.one cc) cF from gc).of_eq ((bK 1600320129 ae ae).trans (by simp only[aP,Nat.reduceEqDiff,if_false]));obtain⟨rd2,fO,_⟩:=wW.LN;simp only[go_sem,h1,h2,h4,h5,h6,r0,r1,r2,fO,s27,dr pr2 St];have ti:=Hx.len;rw[fS]at ti
  simp only[dI,fe]at ti;refine⟨aa,M,ms++[m],cc,d2,m2,b2,_,1600512000,.inr rfl,rfl,rfl,rfl,aD rfl,rfl,.inr (wW.of_eq (by simp only[aP,Nat.reduceEqDiff,if_false])),?_,by simp[HS],Hx,k1,k2⟩;rw[show mP (ms++[m])=mP ms++[aS.ps m] by simp[mP]];exact gp2.of_eq (by simp only[aP,Nat.reduceEqDiff,if_false])
def aji{f:Int}{n:Int}(hn:n<=1000000):aK S 4 [ez f ls,vi n] (rb (decide ((ls.length:Int)<=n)&&(cG f ls==0))):=by
 by_cases h:(ls.length:Int)<=n
 .have pc:=amP f ls aa;have hd:decide ((ls.length:Int)<=n)=true:=Dj h;rw[hd];generalize cG f ls=e at*;refine bt c4 ?_;simp only[go_sem,i4,h,s11,eW pc];all_goals(first|done|exact aJ|exact⟨aJ,rfl⟩|rfl)
 have hd:decide ((ls.length:Int)<=n)=false:=E6 h;rw[hd];refine bt c4 ?_;simp only[go_sem,i4,h];all_goals(first|done|exact aJ|exact⟨aJ,rfl⟩|rfl)
def aod(f:Int)(ls:ai)(hl:ls.length<=1000000):aK S 9 [ez f ls,ez f ls] (rb true):=by
 refine bt c9 ?_;simp only[go_sem,i9,bne];refine dD (fun k ak aj=>ak 2=.one (.aZ 576000000 1 0)/\ak 3=.one (.aZ 576000064 1 0)/\ak 5=vi k/\aj 576000000=(1,some (.var (tQ f ls)))/\aj 576000064=(1,some (.var (tQ f ls)))) 0 ls.length (bR _) ?_ ?_
 .simp only[go_sem];first|done|rfl
 rintro k ak aj hk ⟨h2,h3,h5,b0,b1⟩
 by_cases aA:k<ls.length
 .have aM:((k:Int)<(ls.length:Int)):=aa;have w1:=cU (n:=k) aa;obtain⟨x,hx⟩:=aL aA;have ug:=jf hx;have es:=Vf x x;rw[K7]at es;simp only[go_sem,i9_l1,h2,h3,h5,b0,b1,aA,aM,ug,Let.ps,w1,es];first|done|exact aJ|exact⟨aJ,rfl⟩
 have:k=ls.length:=aa;subst this;simp only[go_sem,i9_l1,i9_r2,h2,h5,b0,eS];first|done|rfl
section
variable {Q:dX} {ak:Env} {aj:aC} {os:h_} {d:w_}
end
end
end Go.Abs
