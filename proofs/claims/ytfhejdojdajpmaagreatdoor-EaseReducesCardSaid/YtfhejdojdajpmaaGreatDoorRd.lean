/-
  The moves that are tried and those that are possible; the reducing search.
-/
import Derived.Test.YtfhejdojdajpmaaGreatDoorUe
import Derived.Test.YtfhejdojdajpmaaGreatDoorRa
set_option linter.all false
set_option maxRecDepth 100000
set_option maxHeartbeats 16000000
namespace Go.Abs
section
variable{F av ty:Nat}{kk:Int}{ms ns:List aU}{D:List Nat}{ls:List Let}{want:List Int}{m:aU}
def ER(q:Pc->Bool):Prop:=∀p p':Pc,p.l.kind=p'.l.kind->q p=q p'
theorem Ug{q:Pc->Bool}(l:List Pc)(drop:Nat->Pc->Bool):(jQ l drop).countP q<=l.countP q:=by
 have key:∀k,k<=l.length->(rl l drop k).countP q<=(l.take k).countP q:=by
  intro k
  induction k with
  |zero=>intro _;exact cA _
  |succ k ih=>
   intro hk;obtain⟨p,hp⟩:=aN (ls:=l) (k:=k) aa;have:=ih aa;rw[iw,hp,vv];cases hd:drop k p
   .rw[HB hp hd,vv];exact Nat.add_le_add_right this _
   rw[zn hp hd];omega
 have:=key l.length (cA _);rwa[jf] at this
theorem UB{q:Pc->Bool}(hq:ER q){f:Pc->Pc}(hf:∀p,(f p).l.kind=p.l.kind)(l:List Pc):(l.map f).countP q=l.countP q:=by rw[DE];exact Pq fun p _=>by rw[Function.comp_apply,hq _ _ (hf p)]
theorem apB(g ab b:Int)(p:Pc):(qe g ab b p).l.kind=p.l.kind:=by unfold qe;split<;>rfl
theorem acK(ids:List Int)(p:Pc):(lL ids p).l.kind=p.l.kind:=by unfold lL;split<;>rfl
section
variable {F:Nat} {ls:List Let}
theorem aeZ(g:bK F ls){q:Pc->Bool}:∀(es:List Nat) (l:List Pc),l.length=ls.length->(∀e∈es,e<ls.length)->(ie ls l es).countP q=l.countP q:=by
 intro es
 induction es with
 |nil=>intro l _ _;rfl
 |cons e es ih=>intro l hl he;show(ie ls (gb ls l e) es).countP q=_;rw[ih _ (by rw[Fm,hl]) fun e h=>he e (by simp[h]),Ik hl (he e af) (UI g (he e af))]
theorem aev{q:Pc->Bool}(hq:ER q)(l:List Pc)(i:Nat)(r:Int):(jd l i r).countP q=l.countP q:=by
 by_cases h:i<l.length
 .obtain⟨p,hp⟩:=aN h;exact Vv hp fun p=>hq _ _ rfl
 unfold jd;rw[afQ aa]
def k5 (k:Int):Prop:=k=1\/k=3\/k=4\/k=6\/k=8
theorem N7(g:bK F ls){q:Pc->Bool}(hq:ER q){k:Int}(hk:k5 k){a b c:Nat}{l o:Bool}{sg:Int}(ha:a<ls.length)(hb:b<ls.length\/(k≠3/\k≠8))(hc:c<ls.length\/k≠8){L:List Pc}(h:mT F ls k a b c l o sg=some L):L.countP q<=(pieces ls).countP q:=by
 have bG:=fG ls;rcases hk with rfl|rfl|rfl|rfl|rfl
 .have h:uF ls a=some L:=h;unfold uF at h;simp only at h;split at h
  .cases h;show(List.map _ _).countP q<=_;rw[UB hq (apB _ _ _)];exact Ug (q:=q) (pieces ls) _
  cases h
 .have h:yK F ls a b=some L:=h;unfold yK at h;split at h
  .cases h;rw[aeZ g _ _ (by rw[Dt,Dt,bG]) (by
    intro e he;simp only[dh,lT,or_false] at he;rcases he with rfl|rfl
    .exact ha
    rcases hb with hb|hb
    .exact hb
    exact absurd rfl hb.1),aev hq,aev hq]
   exact cA _
  cases h
 .have h:vj ls a=some L:=h;unfold vj at h;simp only at h;split at h
  .cases h;show(List.map _ _).countP q<=_;rw[UB hq (acK _)];exact Ug (q:=q) (pieces ls) _
  cases h
 .have h:ti F ls a b=some L:=h;unfold ti at h;split at h
  .cases h;show(List.map _ _).countP q<=_;rw[UB hq (acK _)];exact Ug (q:=q) (pieces ls) _
  cases h
 have h:wT F ls a b c=some L:=h;unfold wT at h;split at h
 .cases h;rw[aeZ g _ _ bG (by
   intro e he;simp only[dh,lT,or_false] at he;rcases he with rfl|rfl|rfl
   .exact ha
   .rcases hb with hb|hb
    .exact hb
    exact absurd rfl hb.2
   rcases hc with hc|hc
   .exact hc
   exact absurd rfl hc)]
  exact cA _
 cases h
theorem do5(g:bK F ls){k:Int}(hk:k5 k)(a b c:Int)(l o:Bool)(sg:Int):aJ S 78 [.one (.p (ek F ls)),ft k a b c l o sg] (mB F ls k a b c l o sg):=by
 have pa:=agR (F:=F) (ls:=ls) (a:=a) (b:=b) (c:=c) (l:=l) (o:=o) (sg:=sg) k;have hlen:=g.len;have fk:=g.cr;unfold mB;cases hA:cD F ls k a b c l o sg with
 |false=>rw[hA] at pa;exact aiz pa
 |true=>
  rw[hA] at pa;rw[aE rfl];have hL:∀L,mT F ls k a.toNat b.toNat c.toNat l o sg=some L->L.length<=1000000:=fun L h=>by have:=am4 h;omega
  have ne:=g.ne;have iV:¬ls.length=0:=by have:=kY.2 ne;omega
  unfold cD at hA;by_cases h1:k=1
  .subst h1;simp only[Int.reduceEq,if_true,if_false,or_false,or_self] at hA;simp only[cE,kW,dk] at hA;obtain⟨rfl,rfl,rfl,hx,rfl,rfl⟩:=hA;obtain⟨av,rfl,ha⟩:=lJ hx;simp only[wX] at hL ⊢;exact Ju hlen fk (k:=1) rfl ae ah pa (ag3 g ha) hL
  by_cases h3:k=3
  .subst h3;simp only[Int.reduceEq,if_true,if_false,or_false,or_self] at hA;simp only[cE,kW,dk,lh] at hA;obtain⟨rfl,rfl,rfl,hx,rfl,hy,au⟩:=hA;obtain⟨av,rfl,ha⟩:=lJ hx;obtain⟨bv,rfl,hb⟩:=lJ hy;simp only[wX] at hL ⊢;exact Ju hlen fk (k:=3) rfl ae ah pa (ag8 g ha hb) hL
  by_cases h4:k=4
  .subst h4;simp only[Int.reduceEq,if_true,if_false,or_false,or_true,or_self] at hA;simp only[cE,kW,dk] at hA;obtain⟨rfl,rfl,rfl,hx,rfl,rfl⟩:=hA;obtain⟨av,rfl,ha⟩:=lJ hx;simp only[wX] at hL ⊢;exact Ju hlen fk (k:=4) rfl ae ah pa (amL g ha) hL
  by_cases h6:k=6
  .subst h6;simp only[Int.reduceEq,if_true,if_false,or_true,or_self] at hA;simp only[cE,kW,dk,lh] at hA;obtain⟨rfl,rfl,rfl,hx,rfl,hy,au⟩:=hA;obtain⟨av,rfl,ha⟩:=lJ hx;obtain⟨bv,rfl,hb⟩:=lJ hy;simp only[wX] at hL ⊢;exact Ju hlen fk (k:=6) rfl ae ah pa (anz g ha hb) hL
  by_cases h8:k=8
  .subst h8;simp only[Int.reduceEq,if_true,if_false,or_self] at hA;simp only[cE,kW,dk,lh] at hA;obtain⟨rfl,rfl,rfl,hx,hy,hz,_,_⟩:=hA;obtain⟨av,rfl,ha⟩:=lJ hx;obtain⟨bv,rfl,hb⟩:=lJ hy;obtain⟨cv,rfl,hc⟩:=lJ hz;simp only[wX] at hL ⊢;exact Ju hlen fk (k:=8) rfl ae ah pa (arl g ha hb hc) hL
  exact absurd hk (by rintro (h|h|h|h|h)<;>contradiction)
theorem agM(g:bK F ls){k:Int}(hk:k5 k)(a b c:Int)(l o:Bool)(sg:Int):aJ S 39 [cY F ls,ft k a b c l o sg] (mB F ls k a b c l o sg):=agN (UU g) (do5 g hk a b c l o sg) agI
theorem Qb(g:bK F ls){k:Int}(hk:k5 k)(a b c:Int)(l o:Bool)(sg:Int):(∃e,e≠0/\mB F ls k a b c l o sg=pZ e)\/ ∃M,mB F ls k a b c l o sg=kA F M/\dT F M=0/\cD F ls k a b c l o sg=true/\ ∃L,mT F ls k a.toNat b.toNat c.toNat l o sg=some L/\M=kK L:=by
 unfold mB;cases hA:cD F ls k a b c l o sg
 .exact .inl ⟨2,ae,rfl⟩
 rw[aE rfl];cases hm:mT F ls k a.toNat b.toNat c.toNat l o sg with
 |none=>exact .inl ⟨4,ae,rfl⟩
 |some L=>
  unfold xC;by_cases sV:(400:Int)<(ls.length:Int)+(kx k).1\/(100:Int)<((ay Let.aB ls/2:Nat):Int)+(kx k).2
  .exact .inl ⟨7,ae,aE sV⟩
  refine .inr ⟨kK L,aD sV,?_,rfl,L,rfl,rfl⟩;have hlen:=g.len;have fk:=g.cr;have hF:=g.fing;have ne:=g.ne;have iV:¬ls.length=0:=by have:=kY.2 ne;omega
  have dA:ay Let.aB ls%2=0:=by have:=g.cz.ev;rwa[lS] at this
  have bG:=fG ls;have kT:ER (fun _=>true):=fun _ _ _=>rfl;have kC:ER (fun p=>p.l.aB):=fun p p' h=>by show(p.l.kind==2)=(p'.l.kind==2);rw[h]
  have pC:(pieces ls).countP (fun p=>p.l.aB)=ay Let.aB ls:=by rw[<- Ox (ls:=ls) Let.aB];show _=List.countP _ (List.map _ _);rw[DE];rfl
  have lC:ay Let.aB (L.map Pc.l)=L.countP (fun p=>p.l.aB):=by show List.countP _ (List.map _ _)=_;rw[DE];rfl
  have tT:∀l:List Pc,l.countP (fun _=>true)=l.length:=fun l=>af;have fin:L=[]\/Cert F L->(∀ {av bv cv:Nat},a=(av:Int)->b=(bv:Int)->c=(cv:Int)->av<ls.length->(bv<ls.length\/(k≠3/\k≠8))->(cv<ls.length\/k≠8)->dT F (kK L)=0):=by
   intro hc av bv cv e1 e2 e3 ha hb qA;subst e1 e2 e3;simp only[wX] at hm;have c1:=N7 g kT hk ha hb qA hm;have c2:=N7 g kC hk ha hb qA hm;rw[tT,tT,bG] at c1;rw[pC] at c2;rcases hc with rfl|hc
   .unfold dT;have:kK []=[]:=rfl;rw[this];rw[aD (by simp[ay]),aD aa,aE rfl]
   exact hc.check aa (by rw[lC];omega) hF
  unfold cD at hA;by_cases h1:k=1
  .subst h1;simp only[Int.reduceEq,if_true,if_false,or_false,or_self] at hA;simp only[cE,kW,dk] at hA;obtain⟨rfl,rfl,rfl,hx,rfl,rfl⟩:=hA;obtain⟨av,rfl,ha⟩:=lJ hx;exact fin (ahK g ha (by simpa [mT] using hm)) rfl (bv:=0) rfl (cv:=0) rfl ha (.inr ⟨ae,ae⟩) (.inr ae)
  by_cases h3:k=3
  .subst h3;simp only[Int.reduceEq,if_true,if_false,or_false,or_self] at hA;simp only[cE,kW,dk,lh] at hA;obtain⟨rfl,rfl,rfl,hx,rfl,hy,au⟩:=hA;obtain⟨av,rfl,ha⟩:=lJ hx;obtain⟨bv,rfl,hb⟩:=lJ hy;exact fin (.inr (ahL g ha hb aa (by simpa [mT] using hm))) rfl rfl (cv:=0) rfl ha (.inl hb) (.inr ae)
  by_cases h4:k=4
  .subst h4;simp only[Int.reduceEq,if_true,if_false,or_false,or_true,or_self] at hA;simp only[cE,kW,dk] at hA;obtain⟨rfl,rfl,rfl,hx,rfl,rfl⟩:=hA;obtain⟨av,rfl,ha⟩:=lJ hx;exact fin (.inr (ahM g ha (by simpa [mT] using hm))) rfl (bv:=0) rfl (cv:=0) rfl ha (.inr ⟨ae,ae⟩) (.inr ae)
  by_cases h6:k=6
  .subst h6;simp only[Int.reduceEq,if_true,if_false,or_true,or_self] at hA;simp only[cE,kW,dk,lh] at hA;obtain⟨rfl,rfl,rfl,hx,rfl,hy,au⟩:=hA;obtain⟨av,rfl,ha⟩:=lJ hx;obtain⟨bv,rfl,hb⟩:=lJ hy;exact fin (.inr (ahN g ha hb (by simpa [mT] using hm))) rfl rfl (cv:=0) rfl ha (.inr ⟨ae,ae⟩) (.inr ae)
  by_cases h8:k=8
  .subst h8;simp only[Int.reduceEq,if_true,if_false,or_self] at hA;simp only[cE,kW,dk,lh] at hA;obtain⟨rfl,rfl,rfl,hx,hy,hz,_,_⟩:=hA;obtain⟨av,rfl,ha⟩:=lJ hx;obtain⟨bv,rfl,hb⟩:=lJ hy;obtain⟨cv,rfl,hc⟩:=lJ hz;exact fin (.inr (ahO g ha hb hc (by simpa [mT] using hm))) rfl rfl rfl ha (.inl hb) (.inl hc)
  exact absurd hk (by rintro (h|h|h|h|h)<;>contradiction)
end
def nJ(x y:aU):Bool:=decide (x.b<y.b)||(decide (x.b=y.b)&&decide (x.c<y.c))
def Bv(m:aU):Prop:=(0<=m.b/\m.b<=1000000)/\0<=m.c/\m.c<=1000000
theorem VK:Swo nJ:=⟨fun a b h=>by unfold nJ at*;simp at*;omega,fun a b c h k=>by unfold nJ at*;simp at*;omega⟩
theorem ahY(x y:aU)(hx:Bv x)(hy:Bv y):∃n:Int,aJ S 187 [EX x,EX y] (ri n)/\(decide (n<0)=nJ x y):=by
 obtain⟨⟨x1,x2⟩,x3,x4⟩:=hx;obtain⟨⟨y1,y2⟩,y3,y4⟩:=hy;have w1:IntKind.i64.wrap (x.b-y.b)=x.b-y.b:=nT aa aa;have w2:IntKind.i64.wrap (x.c-y.c)=x.c-y.c:=nT aa aa;cases hb:(x.b==y.b) with
 |true=>
  have e:x.b=y.b:=eq_of_beq hb;refine⟨x.c-y.c,?_,?_⟩
  .refine bc c187 ?_;simp only[go_sem,i187,bne,hb,w2]
  unfold nJ;rw[yD];simp;omega
 |false=>
  have e:¬x.b=y.b:=by simpa using hb
  refine⟨x.b-y.b,?_,?_⟩
  .refine bc c187 ?_;simp only[go_sem,i187,bne,hb,w1]
  unfold nJ;rw[yD];simp;omega
abbrev mP(o:List aU):List (List PV):=o.map aU.ps
theorem acO(o:List aU)(k:Nat)(v:aU):(mP o).set k v.ps=mP (o.set k v):=by simp[zX]
theorem rm(o:List aU):(mP o).length=o.length:=cG _
def Ig(id g ty:Nat)(es:List aU)(aj:aA)(v:V)(ao:aA):Prop:=v=.tup []/\(∃ws:List aU,ao id=(g,some (.arr ty 7 (mP ws)))/\ws.Perm es/\tD nJ ws 0 ws.length)/\Kept (· =id) aj ao
abbrev B7:V:=.one (.p (.fn 187 [] []))
theorem alP{al:Al}{aj:aA}{id g:Nat}{es:List aU}(o:al.ok id=true)(hl:es.length<=1000000)(Hk:∀m∈es,Bv m)(hC:aj id=(g,some (.arr ty 7 (mP es)))):
  ∃v ao,iA S 231 [.one (.hsl id g 7 0 es.length),vi 0,vi es.length,B7] al aj v ao/\Ig id g ty es aj v ao:=by
 have scm:S.shared 187=false:=ah;refine mz c231 (gj rfl) ?_;have w0:IntKind.i64.wrap (0+1)=((0+1:Nat):Int):=ae;simp only[go_sem,i231];refine cS (fun k ak ao=>ak 0=.one (.hsl id g 7 0 es.length)/\ak 1=vi 0/\ak 2=vi es.length/\ak 3=B7/\ak 8=vi ((k+1:Nat):Int)/\ ∃zs:List aU,ao id=(g,some (.arr ty 7 (mP zs)))/\zs.Perm es/\tD nJ zs 0 (k+1)/\Kept (· =id) aj ao) 0 es.length (bn _) ?_ ?_
 .simp only[go_sem];exact⟨rfl,es,hC,.refl _,fun p q x y _ h1 h2=>aa,Kept.refl _ _⟩
 rintro k ak bt hk ⟨h0,h1,h2,h3,h6,zs,hZ,hp,hs,cT⟩
 have kN:=hp.length_eq;by_cases au:k+1<es.length
 .have aL:((k+1:Nat):Int)<(es.length:Int):=aa;obtain⟨x,hx⟩:=aN (ls:=zs) (k:=k+1) aa;have sx:Bv x:=Hk x (hp.mem_iff.1 (aW hx));simp only[go_sem,i231_l3,h2,h6,aL];refine cS (fun q ak ao=>ak 0=.one (.hsl id g 7 0 es.length)/\ak 1=vi 0/\ak 2=vi es.length/\ak 3=B7/\ak 8=vi ((k+1:Nat):Int)/\ak 9=vi ((k+1-q:Nat):Int)/\ ∃ws:List aU,ao id=(g,some (.arr ty 7 (mP ws)))/\xf nJ zs ws x 0 (k+1) (k+1-q)/\Kept (· =id) aj ao) 0 (k+1) (bn _) ?_ ?_
  .simp only[go_sem,h0,h1,h2,h3,h6];exact⟨zs,hZ,xf.start (bn _) hx hs,cT⟩
  rintro q cP bd hq ⟨k0,k1,k2,k3,k6,k7,ws,hW,hI,Ew⟩
  have kM:ws.length=es.length:=hI.perm.length_eq.trans kN;have wk:IntKind.i64.wrap (((k+1:Nat):Int)+1)=((k+1+1:Nat):Int):=bQ (n:=k+1) aa;by_cases hj0:k+1-q=0
  .have e7:¬((0:Int)<((k+1-q:Nat):Int)):=aa;simp only[go_sem,i231_l1,i231_r2,k0,k1,k2,k3,k6,k7,e7,wk];refine⟨aH,aa,ws,hW,hI.perm.trans hp,hI.stop VK (.inl hj0),Ew⟩
  obtain⟨j,hj⟩:∃j,k+1-q=j+1:=⟨k-q,aa⟩;have e7:((0:Int)<((j+1:Nat):Int)):=aa;obtain⟨y,hy⟩:=aN (ls:=ws) (k:=j) aa;have sy:Bv y:=Hk y ((hI.perm.trans hp).mem_iff.1 (aW hy));rw[hj] at hI k7;have wj:IntKind.i64.wrap (((j+1:Nat):Int)-1)=(j:Int):=by rw[ux aa];omega
  have zk:=Le hI.at';have Bi:=Le hy;have j1:j+1<es.length:=by have:=hI.le;omega
  have j2:j<es.length:=aa;obtain⟨n,pl,hn⟩:=ahY x y sx sy;cases jD:nJ x y with
  |false=>
   rw[jD] at hn;have zb:¬(n<0):=by simpa using hn
   simp only[go_sem,i231_l1,i231_r2,k0,k1,k2,k3,k6,k7,e7,wk,wj,hW,zk,Bi,aU.ps,j1,j2,o,scm,MF pl,zb];refine⟨aH,aa,ws,rfl,hI.perm.trans hp,hI.stop VK (.inr ⟨y,aa,hy,jD⟩),Ew⟩
  |true=>
   rw[jD] at hn;have zb:n<0:=by simpa using hn
   have xL:=hI.step VK (bn _) hy jD;have hjj:¬(j+1=j):=aa;have l1:j+1<ws.length:=aa;have l2:j<ws.length:=aa;simp only[go_sem,i231_l1,i231_r2,k0,k1,k2,k3,k6,k7,e7,wj,hW,zk,Bi,aU.ps,j1,j2,l1,hjj,o,scm,MF pl,zb,nW,rm];have KO:k+1-(q+1)=j:=aa;refine⟨aH,aH,aa,by rw[KO],(ws.set (j+1) y).set j x,by rw[<- acO,<- acO];rfl,by rw[KO];exact xL,(Ew.df rfl _).df rfl _⟩
 have aL:¬(((k+1:Nat):Int)<(es.length:Int)):=aa;simp only[go_sem,i231_l3,h2,h6,aL];exact⟨rfl,⟨zs,hZ,hp,hs.mono (.inl aa)⟩,cT⟩
theorem anM{al:Al}{aj:aA}{id g:Nat}{es:List aU}(o:al.ok id=true)(f1:al.fs.contains 231=true)(hl:es.length<=12)(Hk:∀m∈es,Bv m)(hC:aj id=(g,some (.arr ty 7 (mP es))))(lim:Int):
  ∃v ao,iA S 212 [.one (.hsl id g 7 0 es.length),vi 0,vi es.length,vi lim,B7] al aj v ao/\Ig id g ty es aj v ao:=by
 refine mz c212 (gj rfl) ?_;have w0:IntKind.i64.wrap ((es.length:Int)-0)=(es.length:Int):=by rw[Int.sub_zero];exact nT aa aa
 have l8:(es.length:Int)<=12:=aa;simp only[go_sem,i212];refine lU ?_;simp only[go_sem,i212_l1,w0,l8,s231];refine yP hC (by rfl) (.inr ⟨o,by rw[show S.sites 231=[231] by kernel_rfl];simp only[qM,tv,f1,Fy]⟩) (P:=Ig id g ty es aj) (fun pz h1 _=>alP h1 aa Hk hC) fun v ao hP=>?_;obtain⟨rfl,h2⟩:=hP;simp only[go_sem];exact⟨rfl,h2⟩
theorem aqB{al:Al}{aj:aA}{id g:Nat}{es:List aU}(o:al.ok id=true)(f1:(S.sites 212).all al.fs.contains=true)(hl:es.length<=12)(Hk:∀m∈es,Bv m)(hC:aj id=(g,some (.arr ty 7 (mP es)))):
  ∃v ao,iA S 186 [.one (.hsl id g 7 0 es.length),B7] al aj v ao/\Ig id g ty es aj v ao:=by
 obtain⟨k,pb⟩:=Qj es.length aa;have wu:IntKind.u64.wrap (es.length:Int)=(es.length:Int):=by
  have e:IntKind.u64.wrap (es.length:Int)=(es.length:Int)%18446744073709551616:=by unfold IntKind.wrap;rfl
  rw[e];omega
 refine mz c186 (gj rfl) ?_;have sbl:S.shared 184=false:=ah;simp only[go_sem,i186,wu,sbl,Tj pb,s212];refine yP hC (by rfl) (.inr ⟨o,f1⟩) (P:=Ig id g ty es aj) (fun pz h1 h2=>anM h1 (by rw[h2];kernel_rfl) hl Hk hC k) fun v ao hP=>?_;obtain⟨rfl,h2⟩:=hP;simp only[go_sem];exact⟨rfl,h2⟩
theorem alI(o:List Int)(x:Int)(hl:o.length<=1000000):aJ S 145 [.one (.p (.sl (iP o))),vi x] (ri (match (List.range o.length).find? (mN o x) with|some k=>(k:Int)|none=> -1)):=by
 refine bc c145 ?_;simp only[go_sem,i145];refine cS (fun k ak aj=>ak 0=.one (.p (.sl (iP o)))/\ak 1=vi x/\ak 7=vi o.length/\ak 8=vi k/\ ∀j,j<k->mN o x j=false) 0 o.length (bn _) ?_ ?_
 .simp only[go_sem];exact⟨rfl,fun j hj=>absurd hj (mv j)⟩
 rintro k ak aj hk ⟨h0,h1,h7,h8,hn⟩
 by_cases au:k<o.length
 .have aL:((k:Int)<(o.length:Int)):=aa;obtain⟨y,hy⟩:=aN au;have fg:=wE hy;have w1:=bQ (n:=k) aa;have pP:mN o x k=(y==x):=by simp[mN,hy]
  cases hb:(y==x) with
  |true=>
   have mF:(x==y)=true:=by have:=dk.1 hb;simp[this]
   rw[hb] at pP;have hf:=AO (p:=mN o x) au hn pP;simp only[go_sem,i145_l1,h0,h1,h7,h8,aL,fg,mF,hf]
  |false=>
   have mF:(x==y)=false:=by
    have:¬y=x:=by simpa using hb
    simp;exact fun h=>this h.symm
   rw[hb] at pP;have zb:∀j,j<k+1->mN o x j=false:=fun j hj=>by
    rcases kB.1 hj with h|rfl
    .exact hn j h
    exact pP
   simp only[go_sem,i145_l1,h0,h1,h7,h8,au,aL,fg,mF,w1];exact zb
 have:k=o.length:=aa;subst this;have hf:=Gu (p:=mN o x) hn;simp only[go_sem,i145_l1,i145_r2,h7,h8,dI,hf]
theorem XQ(o:List Int)(x:Int)(hl:o.length<=1000000):aJ S 122 [.one (.p (.sl (iP o))),vi x] (rb (o.contains x)):=by
 have pi:=alI o x hl;refine bc c122 ?_;cases hm:o.contains x with
 |true=>
  have j8:x∈o:=by simpa using hm
  obtain⟨k,hk⟩:=gH j8;have dN:=(aY.1 hk).1;cases hf:(List.range o.length).find? (mN o x) with
  |none=>have:=IM.1 hf k (fJ.2 dN);simp[mN,hk] at this
  |some j=>rw[hf] at pi;have j6:(0:Int)<=(j:Int):=aa;simp only[go_sem,i122,s145,dJ pi,j6]
 |false=>
  have j8:x∉o:=by simpa using hm
  cases hf:(List.range o.length).find? (mN o x) with
  |some j=>
   have h1:=Px hf;unfold mN at h1;cases ho:o[j]? with
   |none=>rw[ho] at h1;cases h1
   |some y=>
    rw[ho] at h1;have:y=x:=by simpa using h1
    subst this;exact absurd (aW ho) j8
  |none=>rw[hf] at pi;have j6:¬(0:Int)<= -1:=ae;simp only[go_sem,i122,s145,dJ pi,j6]
def EW(a b:aU):Bool:=(a.k==b.k)&&((a.a==b.a)&&((a.b==b.b)&&((a.c==b.c)&&((a.l==b.l)&&((a.o==b.o)&&(a.s==b.s))))))
theorem ai0(x y:aU):sQ [true,true,true,true,false,false,true] [.p (.int .i64 x.k),.p (.int .i64 x.a),.p (.int .i64 x.b),.p (.int .i64 x.c),.p (.bool x.l),.p (.bool x.o),.p (.int .i64 x.s)] [.p (.int .i64 y.k),.p (.int .i64 y.a),.p (.int .i64 y.b),.p (.int .i64 y.c),.p (.bool y.l),.p (.bool y.o),.p (.int .i64 y.s)]=some (EW x y):=by
 have e:∀a b:Int,rQ true (.int .i64 a) (.int .i64 b)=some (a==b):=fun a b=>by simp[rQ]
 have e2:∀a b:Bool,rQ false (.bool a) (.bool b)=some (a==b):=fun a b=>by simp[rQ]
 simp only[sQ,EW,e,e2];cases (x.k==y.k)<;>cases (x.a==y.a)<;>cases (x.b==y.b)<;>cases (x.c==y.c)<;>cases (x.l==y.l)<;>cases (x.o==y.o)<;>cases (x.s==y.s)<;>rfl
theorem amZ{a b:aU}(h:EW a b=true):a=b:=by cases a;cases b;unfold EW at h;simp only[cE,dk] at h;obtain⟨h1,h2,h3,h4,h5,h6,h7⟩:=h;subst h1 h2 h3 h4 h5 h6 h7;rfl
theorem am0(a:aU):EW a a=true:=by unfold EW;simp
theorem alJ(ms:List aU)(x:aU)(hm:ms.length<=1000000):∃i:Int,((0<=i->x∈ms)/\(i<0->x∉ms))/\aJ S 211 [.one (.p (.sl (mP ms))),EX x] (ri i):=by
 have:∃r,(∃i:Int,((0<=i->x∈ms)/\(i<0->x∉ms))/\r=ri i)/\aJ S 211 [.one (.p (.sl (mP ms))),EX x] r:=by
  refine BT rfl c211 (gj rfl) ?_;simp only[go_sem,i211];refine cS (fun k ak aj=>ak 0=.one (.p (.sl (mP ms)))/\ak 3=.one (.ba 13504000000 1 0)/\aj 13504000000=(1,some (.var [.p (.int .i64 x.k),.p (.int .i64 x.a),.p (.int .i64 x.b),.p (.int .i64 x.c),.p (.bool x.l),.p (.bool x.o),.p (.int .i64 x.s)]))/\ak 7=vi ms.length/\ak 8=vi k/\x∉ms.take k) 0 ms.length (bn _) ?_ ?_
  .simp only[go_sem];simp
  rintro k ak aj hk ⟨h0,h3,hB,h7,h8,wA⟩
  by_cases au:k<ms.length
  .have aL:((k:Int)<(ms.length:Int)):=aa;obtain⟨m,lG⟩:=aN au;have CC:=Le lG;have w1:=bQ (n:=k) aa;have he:=ai0 x m;cases hb:EW x m with
   |true=>rw[hb] at he;simp only[go_sem,i211_l1,h0,h3,hB,h7,h8,aL,CC,aU.ps,he];exact⟨aH,_,⟨_,⟨fun _=>(amZ hb)▸aW lG,fun h=>aa⟩,rfl⟩,rfl⟩
   |false=>
    rw[hb] at he;simp only[go_sem,i211_l1,h0,h3,hB,h7,h8,au,aL,CC,aU.ps,w1,he];refine⟨aH,fun h=>?_⟩;rw[iw,lG] at h;rcases fi.1 h with h|h
    .exact wA h
    simp only[Option.toList_some,rF] at h;rw[h,am0] at hb;cases hb
  have:k=ms.length:=aa;subst this;simp only[go_sem,i211_l1,i211_r2,h7,h8,dI];exact⟨_,⟨_,⟨fun h=>absurd h ae,fun _=>by rwa[jf] at wA⟩,rfl⟩,rfl⟩
 obtain⟨_,⟨i,h1,rfl⟩,h⟩:=this;exact⟨i,h1,h⟩
theorem XR(ms:List aU)(x:aU)(hm:ms.length<=1000000):∃b,((b=true->x∈ms)/\(b=false->x∉ms))/\aJ S 185 [.one (.p (.sl (mP ms))),EX x] (rb b):=by obtain⟨i,hi,pi⟩:=alJ ms x hm;refine⟨decide (0<=i),⟨fun h=>hi.1 (qk h),fun h=>hi.2 (by have:=fK h;omega)⟩,?_⟩;refine bc c185 ?_;simp only[go_sem,i185,s211,dJ pi]
abbrev hY:Nat:=54
abbrev edT:Nat:=3
def HO(k:Int)(av:Nat)(m:aU):Prop:=m.k=k/\m.a=(av:Int)/\m.l=false/\m.o=false/\m.s=0/\Bv m
theorem lI2{l:List Int}(h:l.length=2):∃a b,l=[a,b]:=by
 match l,h with
 |[a,b],_=>exact⟨a,b,rfl⟩
theorem lI3{l:List Int}(h:l.length=3):∃a b c,l=[a,b,c]:=by
 match l,h with
 |[a,b,c],_=>exact⟨a,b,c,rfl⟩
def HJ(aj:aA)(v:V)(ao:aA):Prop:=v=.tup []/\ao=aj
theorem Tk{Q:dS}{al:Al}{ak:Env}{aj:aA}{os:List bR}{d:Option Nat}{f:Nat}{vs:List V}{P:V->aA->Prop}(pR:(vs.map (jr aj)).flatten=[])(hh:al=.all\/(S.sites f).all al.fs.contains=true)
  (h:∀pz,pz.fs=S.sites f->∃v ao,iA S f vs pz aj v ao/\P v ao) (hK:∀v ao,P v ao->RN S al os Q (put ak d v) ao):gP S al (.sc f vs) d os Q ak aj:=by
 refine rV (P:=P) ?_ (h _ rfl) hK;rcases hh with rfl|h2
 .rfl
 refine holds_of ?_ h2;show al.fE (vs.map (jr aj)).flatten=true;rw[pR];rfl
theorem alO{al:Al}{aj:aA}:∃v ao,iA S 231 [.one (.p .nils),vi 0,vi 0,B7] al aj v ao/\HJ aj v ao:=by refine mz c231 (gj rfl) ?_;have w0:IntKind.i64.wrap 1=1:=ae;have hz:¬((1:Int)<0):=ae;simp only[go_sem,i231];refine lU ?_;simp only[go_sem,i231_l3,w0,hz];first|done|exact⟨rfl,rfl⟩|trace_state
theorem anL{al:Al}{aj:aA}(f1:al.fs.contains 231=true)(lim:Int):∃v ao,iA S 212 [.one (.p .nils),vi 0,vi 0,vi lim,B7] al aj v ao/\HJ aj v ao:=by refine mz c212 (gj rfl) ?_;have w0:IntKind.i64.wrap (0-0)=0:=ae;have l8:((0:Int)<=12):=ae;simp only[go_sem,i212];refine lU ?_;simp only[go_sem,i212_l1,w0,l8,s231];refine Tk (by rfl) (.inr (by rw[show S.sites 231=[231] by kernel_rfl];simp only[qM,tv,f1,Fy])) (P:=HJ aj) (fun pz _=>alO) fun v ao hP=>?_;obtain⟨rfl,h2⟩:=hP;simp only[go_sem];exact⟨rfl,h2⟩
theorem aqA{al:Al}{aj:aA}(f1:(S.sites 212).all al.fs.contains=true):∃v ao,iA S 186 [.one (.p .nils),B7] al aj v ao/\HJ aj v ao:=by obtain⟨k,pb⟩:=Qj 0 aa;have wu:IntKind.u64.wrap ((0:Nat):Int)=((0:Nat):Int):=ae;refine mz c186 (gj rfl) ?_;have sbl:S.shared 184=false:=ah;simp only[go_sem,i186,wu,sbl,Tj pb,s212];refine Tk (by rfl) (.inr f1) (P:=HJ aj) (fun pz h2=>anL (by rw[h2];kernel_rfl) k) fun v ao hP=>?_;obtain⟨rfl,h2⟩:=hP;simp only[go_sem];exact⟨rfl,h2⟩
def jc(kk:Int)(av:Nat)(D:List Nat)(ms:List aU):Prop:=
 (kk≠8->∀b:Nat,av<b->D.length=2->(∃d∈D,d/2=av)->(∃d∈D,d/2=b)->(⟨kk,av,b,0,false,false,0⟩:aU)∈ms)/\
 (kk=8->∀b c:Nat,av<b->b<c->D.length=3->(∃d∈D,d/2=av)->(∃d∈D,d/2=b)->(∃d∈D,d/2=c)->(⟨kk,av,b,c,false,false,0⟩:aU)∈ms)
theorem jc.app(h:jc kk av D ms)(x:List aU):jc kk av D (ms++x):=
 ⟨fun a b c d e f=>FA _ (h.1 a b c d e f),fun a b c d e f g i j=>FA _ (h.2 a b c d e f g i j)⟩
theorem ary(h:D.length=2){x y:Nat}(hx:x∈D)(hy:y∈D)(aM:x≠y):∀z∈D,z=x\/z=y:=by
 match D,h with
 |[a,b],_=>intro z hz;simp only[dh,lT,or_false] at hx hy hz;omega
theorem ara(h:D.length=3){x y w:Nat}(hx:x∈D)(hy:y∈D)(hw:w∈D)(n1:x≠y)(n2:x≠w)(n3:y≠w):∀z∈D,z=x\/z=y\/z=w:=by
 match D,h with
 |[a,b,c],_=>intro z hz;simp only[dh,lT,or_false] at hx hy hw hz;omega
theorem jc.low{d:Nat}(hd:d∈D)(h:d/2<av):jc kk av D ms:=by
 constructor
 .rintro _ b ef h2 ⟨x,hx,ex⟩ ⟨y,hy,ey⟩
  have:=ary h2 hx hy aa d hd;omega
 rintro _ b c ef GL h3 ⟨x,hx,ex⟩ ⟨y,hy,ey⟩ ⟨w,hw,ew⟩
 have:=ara h3 hx hy hw aa aa aa d hd;omega
theorem jc.JK(h:D.length=1\/3<D.length):jc kk av D ms:=
 ⟨fun _ b _ h2=>aa,fun _ b c _ _ h3=>aa⟩
theorem jc.two8(h:D.length=2)(h8:kk=8):jc kk av D ms:=
 ⟨fun h=>absurd h8 h,fun _ b c _ _ h3=>aa⟩
theorem jc.three(h:D.length=3)(h8:kk≠8):jc kk av D ms:=
 ⟨fun _ b _ h2=>aa,fun h=>absurd h h8⟩
theorem jc.two{y0 y1:Int}(h:D.length=2)(hp:[y0,y1].Perm (D.map fun d=>((d/2:Nat):Int)))(hs:tD qI [y0,y1] 0 2)(h8:kk≠8)(hm:(⟨kk,av,y1,0,false,false,0⟩:aU)∈ms):jc kk av D ms:=by
 refine⟨?_,fun h=>absurd h h8⟩;rintro _ b ef _ ⟨x,hx,ex⟩ ⟨y,hy,ey⟩
 have h1:((av:Nat):Int)∈[y0,y1]:=hp.mem_iff.2 (dy.2 ⟨x,hx,by rw[ex]⟩);have h2:((b:Nat):Int)∈[y0,y1]:=hp.mem_iff.2 (dy.2 ⟨y,hy,by rw[ey]⟩);have h3:=hs 0 1 y0 y1 aa aa aa rfl rfl;simp only[decide_eq_false_iff_not] at h3;simp only[dh,lT,or_false] at h1 h2;have:y1=(b:Int):=aa;rw[<- this];exact hm
theorem jc.thr{y0 y1 y2:Int}(h:D.length=3)(hp:[y0,y1,y2].Perm (D.map fun d=>((d/2:Nat):Int)))(hs:tD qI [y0,y1,y2] 0 3)(hm:(⟨kk,av,y1,y2,false,false,0⟩:aU)∈ms):jc kk av D ms:=by
 refine⟨fun _ b _ h2=>aa,?_⟩;rintro _ b c ef GL _ ⟨x,hx,ex⟩ ⟨y,hy,ey⟩ ⟨w,hw,ew⟩
 have h1:((av:Nat):Int)∈[y0,y1,y2]:=hp.mem_iff.2 (dy.2 ⟨x,hx,by rw[ex]⟩);have h2:((b:Nat):Int)∈[y0,y1,y2]:=hp.mem_iff.2 (dy.2 ⟨y,hy,by rw[ey]⟩);have h4:((c:Nat):Int)∈[y0,y1,y2]:=hp.mem_iff.2 (dy.2 ⟨w,hw,by rw[ew]⟩);have h3:=hs 0 1 y0 y1 aa aa aa rfl rfl;have h5:=hs 1 2 y1 y2 aa aa aa rfl rfl;simp only[decide_eq_false_iff_not] at h3 h5;simp only[dh,lT,or_false] at h1 h2 h4;have k1:y1=(b:Int):=aa;have k2:y2=(c:Int):=aa;rw[<- k1,<- k2];exact hm
theorem ac7{l:List aU}{x:aU}(h:l.Nodup)(hx:x∉l):(l++[x]).Nodup:=by rw[FD];refine⟨h,af,fun a ha b hb e=>?_⟩;rw[rF.1 hb] at e;exact hx (e▸ha)
theorem aqM{ws:List aU}{k:Int}(aq:∀m∈ws,HO k av m)(hn:ws.Nodup)(hs:tD nJ ws 0 ws.length):ws.Pairwise fun x y=>nJ x y=true:=by
 rw[IU];intro i j hi hj eT;have h1:=hs i j ws[i] ws[j] (bn _) eT hj (nU hi) (nU hj);have h2:ws[i]≠ws[j]:=fun e=>by have:=(List.getElem_inj hn).1 e;omega
 have k1:=aq _ (Wk hi);have k2:=aq _ (Wk hj);generalize ws[i]=x at*;generalize ws[j]=y at*;cases hb:nJ x y with
 |true=>rfl
 |false=>exfalso;apply h2;obtain⟨a1,a2,a3,a4,a5,_⟩:=k1;obtain⟨c1,c2,c3,c4,c5,_⟩:=k2;cases x;cases y;unfold nJ at h1 hb;simp only[L7,afA,decide_eq_false_iff_not] at h1 hb a1 a2 a3 a4 a5 c1 c2 c3 c4 c5;simp only[aU.mk.injEq];refine⟨aa,aa,aa,aa,by rw[a3,c3],by rw[a4,c4],aa⟩
theorem aic(g:bK F ls)(kk:Int)(ha:av<ls.length):∃ms:List aU,(ms.length<=2/\(∀m∈ms,HO kk av m)/\(∀j,j<2->jc kk av (jJ F ls (2*av+j)).bj ms)/\ms.Pairwise fun x y=>nJ x y=true)/\aJ S 149 [.one (.p (ek F ls)),vi kk,vi av] (.one (aO hY 7 (mP ms))):=by
 have hlen:=g.len;have hN:nD ls<=1600:=by have:=qQ ls ls.length;unfold nD;have:(aC ls).length<=ls.length:=qQ ls ls.length;omega
 suffices h:∃r,(∃ms:List aU,(ms.length<=2/\(∀m∈ms,HO kk av m)/\(∀j,j<2->jc kk av (jJ F ls (2*av+j)).bj ms)/\ms.Pairwise fun x y=>nJ x y=true)/\r=.one (aO hY 7 (mP ms)))/\aJ S 149 [.one (.p (ek F ls)),vi kk,vi av] r by obtain⟨r,⟨ms,h1,rfl⟩,h2⟩:=h;exact⟨ms,h1,h2⟩
 refine BT rfl c149 (gj rfl) ?_;simp only[go_sem,i149];refine cS (fun k ak aj=>ak 0=.one (.p (ek F ls))/\ak 1=vi kk/\ak 2=vi av/\ak 14=vi k/\ ∃ms c,ms.length<=k/\(∀m∈ms,HO kk av m)/\(∀j,j<k->jc kk av (jJ F ls (2*av+j)).bj ms)/\ms.Nodup/\ak 7=.one c/\grown 9537280192 hY 7 (mP ms) (.one c) aj) 0 2 (bn _) ?_ ?_
 .simp only[go_sem];exact⟨rfl,[],.p .nils,cA _,fun m h=>(by cases h),fun j h=>absurd h (mv _),w8,rfl,grown.nil⟩
 rintro k ak aj hk ⟨h0,h1,h2,kL,ms,c,CG,aq,hsd,eV,h7,gm⟩
 by_cases au:k<2
 .have aL:((k:Int)<2):=aa;obtain⟨j,Et,lD,yY⟩:=S4 g (d:=2*av+k) aa;have TM:=aW lD;have A9:=ia Et;have Er:=M8 lD;have m2:=qL (a:=av) aa;have m3:=wrap_add (a:=2*av) (b:=k) aa;have w1:=bQ (n:=k) aa;have Kk:2*av+k<(mS F ls).length:=by rw[Ut];omega
  have hdd:=S5 TM;have akw:=M7 g.ok TM;obtain⟨_,_,hdm,_⟩:=M5 (F:=F) (ls:=ls) (d:=2*av+k) aa;have nxt_:∀Lf:List aU,jc kk av (jJ F ls (2*av+k)).bj (ms++Lf)->∀j,j<k+1->jc kk av (jJ F ls (2*av+j)).bj (ms++Lf):=fun Lf h j hj=>by
   by_cases e:j=k
   .rw[e];exact h
   exact(hsd j aa).app Lf
  have EZ:jc kk av (jJ F ls (2*av+k)).bj ms->∀j,j<k+1->jc kk av (jJ F ls (2*av+j)).bj ms:=fun h=>by have:=nxt_ [] (by rw[qh];exact h);rwa[qh] at this
  generalize hfe:jJ F ls (2*av+k)=f at*;simp only[go_sem,i149_l4,h0,h2,kL,aL,m2,m3,A9,Er,Fc.ps];refine⟨aH,?_⟩;obtain⟨g9,hg9⟩:∃g9,(aj 9536321024).fst+1=g9:=⟨_,rfl⟩;rw[hg9];refine cS (fun q cP bd=>cP 0=.one (.p (ek F ls))/\cP 1=vi kk/\cP 2=vi av/\cP 14=vi k/\cP 7=.one c/\grown 9537280192 hY 7 (mP ms) (.one c) bd/\cP 9=.one (.ba 9536321024 g9 0)/\bd 9536321024=(g9,some (.var (f.ps.map .p)))/\cP 34=.one (.p (.sl (nP f.bj)))/\cP 35=vi f.bj.length/\cP 36=vi q/\(0<q->f.bj.length<=3)/\ ∃zs ce,zs.length=q/\zs=(f.bj.take q).map (fun d=>((d/2:Nat):Int))/\(∀z∈zs,0<=z/\z<=1000000)/\cP 10=.one ce/\grown 9536704256 edT 1 (iP zs) (.one ce) bd) 0 f.bj.length (bn _) ?_ ?_
  .have gm':grown 9537280192 hY 7 (mP ms) (.one c) (df (df aj 9536321024 (g9,some (Ob.var [C.p (PV.bool false),C.p PV.nils,C.p PV.nils,C.p PV.nils,C.p (PV.bool false)]))) 9536321024 (g9,some (Ob.var (f.ps.map .p)))):=gm.of_eq ((aT ae).trans (aT ae));simp only[go_sem,h0,h1,h2,h7,kL,Fc.ps] at gm' ⊢;refine⟨gm',rfl,fun h=>h.elim,[],.p .nils,rfl,rfl,fun z h=>(by cases h),rfl,grown.nil⟩
  rintro q cP bd hq ⟨p0,p1,p2,uk,p7,Ed,p9,b9,Di,Lo,Lp,h3,zs,ce,kN,Hq,hzb,zC,gz⟩
  simp only[Fc.ps,eE,kZ] at b9;by_cases He:q<f.bj.length
  .have T1:((q:Int)<(f.bj.length:Int)):=aa;obtain⟨d,hd⟩:=aN He;have j5:=ia hd;have hdb:=hdd d (aW hd);have wq:=wrap_small (n:=d/2) aa;have w2:=bQ (n:=q) aa;by_cases c1:d/2<av
   .have c1':(((d/2:Nat):Int)<(av:Int)):=aa;simp only[go_sem,i149_l1,i149_r3,p0,p1,p2,uk,p7,p9,zC,Di,Lo,Lp,b9,He,T1,j5,dF,eL,wq,c1',w1,au];exact⟨ms,c,aa,aq,EZ (.low (aW hd) c1),eV,rfl,Ed⟩
   have c1':¬(((d/2:Nat):Int)<(av:Int)):=aa;by_cases c2:3<f.bj.length
   .have c2':((3:Int)<(f.bj.length:Int)):=aa;simp only[go_sem,i149_l1,i149_r3,p0,p1,p2,uk,p7,p9,zC,Di,Lo,Lp,b9,He,T1,j5,dF,eL,wq,c1',c2',w1,au];exact⟨ms,c,aa,aq,EZ (.JK (.inr c2)),eV,rfl,Ed⟩
   have c2':¬((3:Int)<(f.bj.length:Int)):=aa;simp only[go_sem,i149_l1,p2,p9,zC,Di,Lo,Lp,b9,T1,j5,dF,eL,wq,c1',c2'];refine mE (xs:=[[.int .i64 ((d/2:Nat):Int)]]) (gz.of_eq (aT ae)) (by simp only[eN,aS,if_true];rfl) (.inl rfl) (by simp only[vg,dp,eP];omega) fun c2 iQ gz2 hb=>?_;have q9:=hb 9536321024 ae ae;have xF:=Ed.of_eq ((hb 9537280192 ae ae).trans (aT ae));simp only[go_sem,b9] at q9;simp only[go_sem,p0,p1,p2,uk,p7,p9,Di,Lo,Lp,q9,w2,Fc.ps];refine⟨He,xF,fun _=>aa,zs++[((d/2:Nat):Int)],c2,by simp;omega,by rw[Hq,iw,hd];simp,fun z hz=>?_,rfl,?_⟩
   .rcases fi.1 hz with h|h
    .exact hzb z h
    have:=rF.1 h;omega
   rw[show iP (zs++[((d/2:Nat):Int)])=iP zs++[[.int .i64 ((d/2:Nat):Int)]] by simp[iP]];exact gz2
  have:q=f.bj.length:=aa;subst this;have akz:0<f.bj.length:=Mc hdm;have qV:=h3 akz;rcases gz with ⟨e,_⟩|⟨_,gg,e,bz⟩
  .have hz0:(iP zs).length=0:=by rw[e];rfl
   rw[vg] at hz0;omega
  cases e;have sS:S.shared 169=true:=ah;simp only[go_sem,i149_l1,i149_r2,zC,Lo,Lp,dI,sS,vg];refine yP bz (by rfl) (.inl rfl) (P:=Dv qI 9536704256 gg edT zs bd) (fun pz h1 h2=>VE h1 (by rw[h2];kernel_rfl) aa bz) fun v iQ hP=>?_;obtain⟨rfl,⟨ws,bw,pw,sw⟩,kw⟩:=hP;have xF:=Ed.of_eq (kw 9537280192 ae);have kM:=pw.length_eq;have mL:ws.Perm (f.bj.map fun d=>((d/2:Nat):Int)):=by rw[Hq,jf] at pw;exact pw
  have hwb:∀z∈ws,0<=z/\z<=1000000:=fun z hz=>hzb z (pw.mem_iff.1 hz);rw[kN] at kM;clear pw hzb b9 bz;clear h3 He hdd akw TM hdm hq Hq;generalize tZ:f.bj.length=n at*;have s120:S.shared 185=false:=ah;have yv:(((2:Nat):Int)==2)=true:=ae;have q12:(((1:Nat):Int)==2)=false:=ae;have q32:(((3:Nat):Int)==2)=false:=ae;have q13:(((1:Nat):Int)==3)=false:=ae;have sC:(((2:Nat):Int)==3)=false:=ae;have q33:(((3:Nat):Int)==3)=true:=ae;rcases(by omega:n=1\/n=2\/n=3) with rfl|rfl|rfl
  .simp only[go_sem,i149_r3,p0,p1,p2,uk,p7,zC,kN,q12,q13,w1,au];exact⟨ms,c,aa,aq,EZ (.JK (.inl tZ)),eV,rfl,xF.of_eq ((aT ae).trans (aT ae))⟩
  .obtain⟨y0,y1,rfl⟩:=lI2 kM;by_cases h8:kk=8
   .have e8:(kk !=8)=false:=by rw[h8];rfl
    simp only[go_sem,i149_r3,p0,p1,p2,uk,p7,zC,kN,yv,sC,e8,w1,au];exact⟨ms,c,aa,aq,EZ (.two8 tZ h8),eV,rfl,xF.of_eq ((aT ae).trans (aT ae))⟩
   have e8:(kk !=8)=true:=by simpa using h8
   simp only[go_sem,i149_r3,p1,p2,p7,zC,kN,yv,e8,bw];obtain⟨bb,sU,pcv⟩:=XR ms ⟨kk,av,y1,0,false,false,0⟩ aa;have U1:aJ S 185 [.one (.p (.sl (mP ms))),.agg [.p (.int .i64 kk),.p (.int .i64 av),.p (.int .i64 y1),.p (.int .i64 0),.p (.bool false),.p (.bool false),.p (.int .i64 0)]] (rb bb):=pcv;obtain⟨r,snB,hr⟩:=xF.Ih;simp only[go_sem,s120,snB,cq U1];cases bb with
   |true=>simp only[go_sem,p0,p1,p2,uk,p7,w1,au];exact⟨ms,c,aa,aq,EZ (.two tZ mL sw h8 (sU.1 rfl)),eV,rfl,xF.of_eq (by simp only[aS,Nat.reduceEqDiff,if_false])⟩
   |false=>
    simp only[go_sem,p7];refine mE (xs:=[aU.ps ⟨kk,av,y1,0,false,false,0⟩]) (xF.of_eq (by simp only[aS,Nat.reduceEqDiff,if_false])) (by simp only[eN,aS,if_true];rfl) (.inl rfl) (by simp only[rm,dp,eP];omega) fun c2 xt xG eo=>?_;simp only[go_sem,p0,p1,p2,uk,w1,au];refine⟨ms++[⟨kk,av,y1,0,false,false,0⟩],c2,by simp;omega,fun m hm=>?_,nxt_ _ (.two tZ mL sw h8 af),ac7 eV (sU.2 rfl),rfl,by rw[show mP (ms++[⟨kk,av,y1,0,false,false,0⟩])=mP ms++[aU.ps ⟨kk,av,y1,0,false,false,0⟩] by simp[mP]];exact xG⟩;rcases fi.1 hm with h|h
    .exact aq m h
    have:=rF.1 h;subst this;exact⟨rfl,rfl,rfl,rfl,rfl,hwb y1 af,af⟩
  obtain⟨y0,y1,y2,rfl⟩:=lI3 kM;by_cases h8:kk=8
  .have e8:(kk==8)=true:=by rw[h8];rfl
   simp only[go_sem,i149_r3,p1,p2,p7,zC,kN,q32,q33,e8,bw];obtain⟨bb,sU,pcv⟩:=XR ms ⟨kk,av,y1,y2,false,false,0⟩ aa;have U1:aJ S 185 [.one (.p (.sl (mP ms))),.agg [.p (.int .i64 kk),.p (.int .i64 av),.p (.int .i64 y1),.p (.int .i64 y2),.p (.bool false),.p (.bool false),.p (.int .i64 0)]] (rb bb):=pcv;obtain⟨r,snB,hr⟩:=xF.Ih;refine⟨aH,?_⟩;simp only[go_sem,s120,snB,cq U1];cases bb with
   |true=>simp only[go_sem,p0,p1,p2,uk,p7,w1,au];exact⟨ms,c,aa,aq,EZ (.thr tZ mL sw (sU.1 rfl)),eV,rfl,xF.of_eq (by simp only[aS,Nat.reduceEqDiff,if_false])⟩
   |false=>
    simp only[go_sem,p7];refine mE (xs:=[aU.ps ⟨kk,av,y1,y2,false,false,0⟩]) (xF.of_eq (by simp only[aS,Nat.reduceEqDiff,if_false])) (by simp only[eN,aS,if_true];rfl) (.inl rfl) (by simp only[rm,dp,eP];omega) fun c2 xt xG eo=>?_;simp only[go_sem,p0,p1,p2,uk,w1,au];refine⟨ms++[⟨kk,av,y1,y2,false,false,0⟩],c2,by simp;omega,fun m hm=>?_,nxt_ _ (.thr tZ mL sw af),ac7 eV (sU.2 rfl),rfl,by rw[show mP (ms++[⟨kk,av,y1,y2,false,false,0⟩])=mP ms++[aU.ps ⟨kk,av,y1,y2,false,false,0⟩] by simp[mP]];exact xG⟩;rcases fi.1 hm with h|h
    .exact aq m h
    have:=rF.1 h;subst this;exact⟨rfl,rfl,rfl,rfl,rfl,hwb y1 af,hwb y2 af⟩
  have e8:(kk==8)=false:=by simpa using h8
  simp only[go_sem,i149_r3,p0,p1,p2,uk,p7,zC,kN,q32,q33,e8,w1,au];exact⟨ms,c,aa,aq,EZ (.three tZ h8),eV,rfl,xF.of_eq ((aT ae).trans (aT ae))⟩
 have:k=2:=aa;subst this;have j6:¬(((2:Nat):Int)<2):=ae;have sS:S.shared 186=true:=ah;simp only[go_sem,i149_l4,i149_r5,h7,kL,j6,sS];rcases gm with ⟨e,e2⟩|⟨aM,gg,e2,bm⟩
 .cases e2;have:ms=[]:=by simpa [mP] using e
  subst this;refine Tk (by rfl) (.inl rfl) (P:=HJ aj) (fun pz h2=>aqA (by rw[h2];kernel_rfl)) fun v iQ hP=>?_;obtain⟨rfl,rfl⟩:=hP;simp only[go_sem,h7];exact⟨_,⟨[],⟨af,(fun m h=>by cases h),hsd,List.Pairwise.nil⟩,rfl⟩,rfl⟩
 cases e2;rw[rm] at h7 ⊢;refine yP bm (by rfl) (.inl rfl) (P:=Ig 9537280192 gg hY ms aj) (fun pz h1 h2=>aqB h1 (by rw[h2];kernel_rfl) aa (fun m hm=>(aq m hm).2.2.2.2.2) bm) fun v iQ hP=>?_;obtain⟨rfl,⟨ws,bw,pw,sw⟩,kw⟩:=hP;simp only[go_sem,h7];have kM:=pw.length_eq;refine⟨_,⟨ws,⟨aa,fun m hm=>aq m (pw.mem_iff.1 hm),fun j hj=>⟨fun a b c d e f=>pw.mem_iff.2 ((hsd j hj).1 a b c d e f),fun a b c d e f g i j'=>pw.mem_iff.2 ((hsd j hj).2 a b c d e f g i j')⟩,aqM (fun m hm=>aq m (pw.mem_iff.1 hm)) (pw.nodup_iff.2 eV) sw⟩,rfl⟩,?_⟩;rw[<- kM,<- rm ws];refine xH (.inr ⟨fun e=>aM ?_,gg,rfl,bw⟩);have h0:(mP ws).length=0:=by rw[e];rfl
 rw[rm,kM] at h0;rw[BJ.1 h0];rfl
def zB(k:Int)(n:Nat)(m:aU):Prop:= ∃a,a<n/\HO k a m
theorem UQ{k:Int}{n a:Nat}(h:∀m∈ms,zB k n m)(h2:∀m∈ns,HO k a m)(ha:a<n):∀m∈ms++ns,zB k n m:=fun m hm=>(fi.1 hm).elim (h m) fun h3=>⟨a,ha,h2 m h3⟩
def CP (F:Nat)(ls:List Let)(kk:Int)(ms:List aU):Prop:=(kk=1\/kk=4->∀a:Nat,a<ls.length->(⟨kk,a,0,0,false,false,0⟩:aU)∈ms)/\(kk=3\/kk=6\/kk=8->∀a,a<ls.length->∀j,j<2->jc kk a (jJ F ls (2*a+j)).bj ms)
theorem jc.mB(h:jc kk av D ms)(x:List aU):jc kk av D (x++ms):=
 ⟨fun a b c d e f=>zY _ (h.1 a b c d e f),fun a b c d e f g i j=>zY _ (h.2 a b c d e f g i j)⟩
def wL(x y:aU):Prop:=x.a<y.a\/(x.a=y.a/\nJ x y=true)
section
variable {F:Nat} {ls:List Let}
theorem ad1{k:Nat}(h:(∀m∈ms,m.a<(k:Int))/\ms.Pairwise wL)(hn:∀m∈ns,m.a=(k:Int))(hp:ns.Pairwise fun x y=>nJ x y=true):(∀m∈ms++ns,m.a<((k+1:Nat):Int))/\(ms++ns).Pairwise wL:=by
 refine⟨fun m hm=>?_,BM.2 ⟨h.2,hp.imp_of_mem fun hx hy hl=>.inr ⟨by rw[hn _ hx,hn _ hy],hl⟩,fun x hx y hy=>.inl (by rw[hn y hy];exact h.1 x hx)⟩⟩;rcases fi.1 hm with h1|h1
 .have:=h.1 m h1;omega
 have:=hn m h1;omega
theorem ahC(g:bK F ls)(aM:0<ls.length)(d2:(kk==2)=false)(d5:(kk==5)=false)(d7:(kk==7)=false)(d3:(kk==3)=false)(d6:(kk==6)=false)(d8:(kk==8)=false):∃ms:List aU,(ms.length<=2*ls.length/\(∀m∈ms,zB kk ls.length m)/\CP F ls kk ms/\ms.Pairwise wL)/\aJ S 123 [.one (.p (ek F ls)),vi kk] (.one (aO hY 7 (mP ms))):=by
 have hlen:=g.len;have bG:(dB (pieces ls)).length=ls.length:=by rw[dB,cG,fG]
 have fP:(((ls.length:Nat):Int)==0)=false:=by rw[rI];omega
 suffices h:∃r,(∃ms:List aU,(ms.length<=2*ls.length/\(∀m∈ms,zB kk ls.length m)/\CP F ls kk ms/\ms.Pairwise wL)/\r=.one (aO hY 7 (mP ms)))/\aJ S 123 [.one (.p (ek F ls)),vi kk] r by obtain⟨r,⟨ms,h1,rfl⟩,h2⟩:=h;exact⟨ms,h1,h2⟩
 refine BT rfl c123 (gj rfl) ?_;simp only[go_sem,i123,i123_r12,bG,fP];refine cS (fun k ak aj=>ak 0=.one (.p (ek F ls))/\ak 1=vi kk/\ak 41=vi ls.length/\ak 42=vi k/\ ∃ms c,ms.length<=2*k/\(∀m∈ms,zB kk ls.length m)/\(∀a:Nat,a<k->(⟨kk,a,0,0,false,false,0⟩:aU)∈ms)/\((∀m∈ms,m.a<(k:Int))/\ms.Pairwise wL)/\ak 5=.one c/\grown 7872768320 hY 7 (mP ms) (.one c) aj) 0 ls.length (bn _) ?_ ?_
 .simp only[go_sem];exact⟨rfl,[],.p .nils,af,fun m h=>(by cases h),fun a h=>absurd h (mv _),⟨fun m h=>(by cases h),List.Pairwise.nil⟩,rfl,grown.nil⟩
 rintro k ak aj hk ⟨h0,h1,xK,rZ,ms,c,CG,aq,yS,ji,h5,gm⟩
 by_cases au:k<ls.length
 .have aL:((k:Int)<(ls.length:Int)):=aa;have w1:=bQ (n:=k) aa;simp only[go_sem,i123_l10,i123_r9,h1,xK,rZ,h5,aL,d2,d5,d7,d3,d6,d8];refine mE (xs:=[aU.ps ⟨kk,k,0,0,false,false,0⟩]) (gm.of_eq (by simp only[aS,Nat.reduceEqDiff,if_false])) (by simp only[eN,aS,if_true];rfl) (.inl rfl) (by simp only[rm,dp,eP];omega) fun c2 xt xG eo=>?_;simp only[go_sem,h0,h1,xK,rZ,w1,au];refine⟨ms++[⟨kk,k,0,0,false,false,0⟩],c2,by simp;omega,fun m hm=>?_,fun a ha=>?_,ad1 ji (fun m hm=>by rw[rF.1 hm]) (afN _ _),rfl,by rw[show mP (ms++[⟨kk,k,0,0,false,false,0⟩])=mP ms++[aU.ps ⟨kk,k,0,0,false,false,0⟩] by simp[mP]];exact xG⟩
  .rcases fi.1 hm with h|h
   .exact aq m h
   have:=rF.1 h;subst this;exact⟨k,au,rfl,rfl,rfl,rfl,rfl,by simp[Bv]⟩
  by_cases e:a=k
  .rw[e];simp
  exact FA _ (yS a aa)
 have:k=ls.length:=aa;subst this;simp only[go_sem,i123_l10,i123_r11,xK,rZ,h5,dI];exact⟨_,⟨ms,⟨CG,aq,⟨fun _=>yS,fun h=>by rcases h with rfl|rfl|rfl<;>simp_all⟩,ji.2⟩,rfl⟩,xH gm⟩
theorem ahB(g:bK F ls)(aM:0<ls.length)(tV:kk=3\/kk=6\/kk=8):∃ms:List aU,(ms.length<=2*ls.length/\(∀m∈ms,zB kk ls.length m)/\CP F ls kk ms/\ms.Pairwise wL)/\aJ S 123 [.one (.p (ek F ls)),vi kk] (.one (aO hY 7 (mP ms))):=by
 have hlen:=g.len;have lo:S.lone 7874944256=false:=ah;have bG:(dB (pieces ls)).length=ls.length:=by rw[dB,cG,fG]
 have fP:(((ls.length:Nat):Int)==0)=false:=by rw[rI];omega
 suffices h:∃r,(∃ms:List aU,(ms.length<=2*ls.length/\(∀m∈ms,zB kk ls.length m)/\CP F ls kk ms/\ms.Pairwise wL)/\r=.one (aO hY 7 (mP ms)))/\aJ S 123 [.one (.p (ek F ls)),vi kk] r by obtain⟨r,⟨ms,h1,rfl⟩,h2⟩:=h;exact⟨ms,h1,h2⟩
 have d2:(kk==2)=false:=by rw[rI];omega
 have d5:(kk==5)=false:=by rw[rI];omega
 have d7:(kk==7)=false:=by rw[rI];omega
 refine BT rfl c123 (gj rfl) ?_;simp only[go_sem,i123,i123_r12,bG,fP];refine cS (fun k ak aj=>ak 0=.one (.p (ek F ls))/\ak 1=vi kk/\ak 41=vi ls.length/\ak 42=vi k/\ ∃ms c,ms.length<=2*k/\(∀m∈ms,zB kk ls.length m)/\(∀a,a<k->∀j,j<2->jc kk a (jJ F ls (2*a+j)).bj ms)/\((∀m∈ms,m.a<(k:Int))/\ms.Pairwise wL)/\ak 5=.one c/\grown 7874944320 hY 7 (mP ms) (.one c) aj) 0 ls.length (bn _) ?_ ?_
 .simp only[go_sem];exact⟨rfl,[],.p .nils,af,fun m h=>(by cases h),fun a h=>absurd h (mv _),⟨fun m h=>(by cases h),List.Pairwise.nil⟩,rfl,grown.nil⟩
 rintro k ak aj hk ⟨h0,h1,xK,rZ,ms,c,CG,aq,yS,ji,h5,gm⟩
 by_cases au:k<ls.length
 .have aL:((k:Int)<(ls.length:Int)):=aa;have w1:=bQ (n:=k) aa;obtain⟨ns,⟨hns,Hc,Hb,Be⟩,pc⟩:=aic g kk au;have TZ:=ad1 ji (fun m hm=>(Hc m hm).2.1) Be;have Tx:∀a,a<k+1->∀j,j<2->jc kk a (jJ F ls (2*a+j)).bj (ms++ns):=fun a ha j hj=>by
   by_cases e:a=k
   .rw[e];exact(Hb j hj).mB ms
   exact(yS a aa j hj).app ns
  cases d3:(kk==3) with
  |true=>simp only[go_sem,i123_l10,i123_r9,h0,h1,xK,rZ,h5,aL,d2,d5,d7,d3,s149];refine pI pc lo (.inl rfl) fun cc bt gl cQ=>?_;have AQ:=gm.of_eq (cQ 7874944320 ae);obtain⟨r,hx,hr⟩:=gl.elems;simp only[go_sem];refine mE (xs:=mP ns) AQ hx gl.eC (by simp only[rm];omega) fun c2 xt xG eo=>?_;simp only[go_sem,h0,h1,xK,rZ,w1,au];exact⟨ms++ns,c2,by simp;omega,UQ aq Hc au,Tx,TZ,rfl,by rw[show mP (ms++ns)=mP ms++mP ns by simp[mP]];exact xG⟩
  |false=>
   cases d6:(kk==6) with
   |true=>simp only[go_sem,i123_l10,i123_r9,h0,h1,xK,rZ,h5,aL,d2,d5,d7,d3,d6,s149];refine pI pc lo (.inl rfl) fun cc bt gl cQ=>?_;have AQ:=gm.of_eq (cQ 7874944320 ae);obtain⟨r,hx,hr⟩:=gl.elems;simp only[go_sem];refine mE (xs:=mP ns) AQ hx gl.eC (by simp only[rm];omega) fun c2 xt xG eo=>?_;simp only[go_sem,h0,h1,xK,rZ,w1,au];exact⟨ms++ns,c2,by simp;omega,UQ aq Hc au,Tx,TZ,rfl,by rw[show mP (ms++ns)=mP ms++mP ns by simp[mP]];exact xG⟩
   |false=>
    have d8:(kk==8)=true:=by
     rcases tV with rfl|rfl|rfl
     .cases d3
     .cases d6
     rfl
    simp only[go_sem,i123_l10,i123_r9,h0,h1,xK,rZ,h5,aL,d2,d5,d7,d3,d6,d8,s149];refine pI pc lo (.inl rfl) fun cc bt gl cQ=>?_;have AQ:=gm.of_eq (cQ 7874944320 ae);obtain⟨r,hx,hr⟩:=gl.elems;simp only[go_sem];refine mE (xs:=mP ns) AQ hx gl.eC (by simp only[rm];omega) fun c2 xt xG eo=>?_;simp only[go_sem,h0,h1,xK,rZ,w1,au];exact⟨ms++ns,c2,by simp;omega,UQ aq Hc au,Tx,TZ,rfl,by rw[show mP (ms++ns)=mP ms++mP ns by simp[mP]];exact xG⟩
 have:k=ls.length:=aa;subst this;simp only[go_sem,i123_l10,i123_r11,xK,rZ,h5,dI];exact⟨_,⟨ms,⟨CG,aq,⟨fun h=>aa,fun _=>yS⟩,ji.2⟩,rfl⟩,xH gm⟩
end
abbrev B3:Nat:=24
theorem ar8{a:PV}{id g z o l:Nat}:zQ [[.p a,.hsl id g z o l]]=none:=rfl
theorem aiN{aj:aA}{s g sd td zd:Nat}{x:Int}{cd:C}{D:List (List PV)}(hb:aj s=(g,some (.gQ ty 2 [[.p (.int .i64 x),cd]])))(gd:grown sd td zd D (.one cd) aj):
  ∃fr,eN aj (.one (.hsl s g 2 0 1))=some ([[.int .i64 x,.sl D]],[s],fr)/\uG aj fr/\(fr=[]\/fr=[sd]):=by
 obtain⟨r1,n1,a1,q1⟩:=gd.OV;refine⟨r1,?_,a1,q1⟩;simp only[eN,hb];simp[collect,n1,OY,PV.norm]
abbrev te(k:Int):Prop:=k5 k
def ui(F:Nat)(ls:List Let)(want:List Int)(m:aU):Prop:=m.k∈want/\zB m.k ls.length m/\ ∃M,mB F ls m.k m.a m.b m.c m.l m.o m.s=kA F M
section
variable {F:Nat} {ls:List Let}
theorem ahE(g:bK F ls)(aM:0<ls.length)(h:te kk):∃ms:List aU,(ms.length<=2*ls.length/\(∀m∈ms,zB kk ls.length m)/\CP F ls kk ms/\ms.Pairwise wL)/\aJ S 123 [.one (.p (ek F ls)),vi kk] (.one (aO hY 7 (mP ms))):=by
 have n2:kk≠2:=by unfold te k5 at h;omega
 have n5:kk≠5:=by unfold te k5 at h;omega
 have n7:kk≠7:=by unfold te k5 at h;omega
 by_cases hc:kk=3\/kk=6\/kk=8
 .exact ahB g aM hc
 exact ahC g aM (rI.2 n2) (rI.2 n5) (rI.2 n7) (rI.2 fun e=>hc (.inl e)) (rI.2 fun e=>hc (.inr (.inl e))) (rI.2 fun e=>hc (.inr (.inr e)))
def tg(x y:aU):Prop:=x.k<y.k\/(x.k=y.k/\wL x y)
def CS (F:Nat)(ls:List Let)(want:List Int)(n:Int)(ms:List aU):Prop:=∀kk∈want,1<=kk->kk<=n->∃ns,CP F ls kk ns/\ ∀m∈ns,(∃M,mB F ls m.k m.a m.b m.c m.l m.o m.s=kA F M)->m∈ms
theorem CS.next{n:Int}(h:CS F ls want n ms)(h2:n+1∈want->∃ns,CP F ls (n+1) ns/\ ∀m∈ns,(∃M,mB F ls m.k m.a m.b m.c m.l m.o m.s=kA F M)->m∈ms):CS F ls want (n+1) ms:=fun kk hk h1 h3=>by
 by_cases e:kk=n+1
 .subst e;exact h2 hk
 exact h kk hk h1 aa
theorem CS.app{n:Int}(h:CS F ls want n ms)(m:aU):CS F ls want n (ms++[m]):=fun kk hk h1 h3=>by obtain⟨ns,a,b⟩:=h kk hk h1 h3;exact⟨ns,a,fun m hm hM=>FA _ (b m hm hM)⟩
theorem apa{L:List Let}{e:Int}(he:e≠0):kA F L≠pZ e:=fun h=>by unfold kA pZ at h;simp only[RV.tup.injEq,yE,RV.one.injEq,RC.p.injEq,PV.int.injEq,and_true,true_and] at h;exact he h.2.symm
theorem adK{k j:Nat}(h:(∀m∈ms,m.k<=(k:Int)\/(m.k=((k+1:Nat):Int)/\m∈ns.take j))/\ms.Pairwise tg):(∀m∈ms,m.k<=(k:Int)\/(m.k=((k+1:Nat):Int)/\m∈ns.take (j+1)))/\ms.Pairwise tg:=
 ⟨fun m hm=>(h.1 m hm).imp_right fun h2=>⟨h2.1,by rw[iw];exact FA _ h2.2⟩,h.2⟩
theorem anQ{k j:Nat}{m:aU}(h:(∀m∈ms,m.k<=(k:Int)\/(m.k=((k+1:Nat):Int)/\m∈ns.take j))/\ms.Pairwise tg)(hp:ns.Pairwise wL)(hk:m.k=((k+1:Nat):Int))(hm:ns[j]?=some m):(∀x∈ms++[m],x.k<=(k:Int)\/(x.k=((k+1:Nat):Int)/\x∈ns.take (j+1)))/\(ms++[m]).Pairwise tg:=by
 refine⟨fun x hx=>?_,BM.2 ⟨h.2,afN _ _,fun x hx y hy=>?_⟩⟩
 .rcases fi.1 hx with h1|h1
  .exact(adK h).1 x h1
  rw[rF.1 h1];refine .inr ⟨hk,?_⟩;rw[iw,hm];exact zY _ af
 rw[rF.1 hy];rcases h.1 x hx with h1|⟨h1,h2⟩
 .exact .inl aa
 refine .inr ⟨aa,?_⟩;obtain⟨i,hi⟩:=gH h2;rw[jY] at hi;split at hi
 .rename_i eT;obtain⟨a1,a2⟩:=aY.1 hi;obtain⟨c1,c2⟩:=aY.1 hm;have:=IU.1 hp i j a1 c1 eT;rw[a2,c2] at this;exact this
 cases hi
theorem aeP(g:bK F ls)(aM:0<ls.length)(want:List Int)(kM:want.length<=10)(hw:∀k∈want,te k):∃ms cs,(ms.length<=8000/\(∀m∈ms,ui F ls want m)/\CS F ls want 10 ms/\ms.Pairwise tg)/\aJ S 100 [.one (.p (ek F ls)),.one (.p (.sl (iP want)))] (.tup [.one (aO hY 7 (mP ms)),.one (aO B3 2 cs)]):=by
 have hlen:=g.len;have nI:S.lone 6400448128=false:=ah;have wK:S.lone 6400640128=false:=ah
 suffices h:∃r,(∃ms cs,(ms.length<=8000/\(∀m∈ms,ui F ls want m)/\CS F ls want 10 ms/\ms.Pairwise tg)/\r=.tup [.one (aO hY 7 (mP ms)),.one (aO B3 2 cs)])/\aJ S 100 [.one (.p (ek F ls)),.one (.p (.sl (iP want)))] r by obtain⟨r,⟨ms,cs,h1,rfl⟩,h2⟩:=h;exact⟨ms,cs,h1,h2⟩
 refine BT rfl c100 (gj rfl) ?_;simp only[go_sem,i100];refine cS (fun k ak aj=>ak 0=.one (.p (ek F ls))/\ak 1=.one (.p (.sl (iP want)))/\ak 8=vi ((k+1:Nat):Int)/\ ∃ms cs c d,ms.length<=800*k/\cs.length<=800*k/\(∀m∈ms,ui F ls want m)/\CS F ls want ((k:Nat):Int) ms/\((∀m∈ms,m.k<=(k:Int))/\ms.Pairwise tg)/\ak 6=.one c/\ak 7=.one d/\grown 6400768192 hY 7 (mP ms) (.one c) aj/\grown 6400768448 B3 2 cs (.one d) aj) 0 10 (bn _) ?_ ?_
 .simp only[go_sem];exact⟨rfl,[],[],.p .nils,.p .nils,af,af,fun m h=>(by cases h),fun kk _ h1 h2=>absurd h2 aa,⟨fun m h=>(by cases h),List.Pairwise.nil⟩,rfl,rfl,grown.nil,grown.nil⟩
 rintro k ak aj hk ⟨e0,e1,e8,ms,cs,c,d,CG,cX,aq,xP,ua,e6,e7,gm,gc⟩
 by_cases au:k<10
 .have aL:((k+1:Nat):Int)<=10:=aa;have w1:=bQ (n:=k+1) aa;have ph:=XQ want ((k+1:Nat):Int) aa;cases hc:want.contains ((k+1:Nat):Int) with
  |false=>rw[hc] at ph;simp only[go_sem,i100_l3,i100_r2,e0,e1,e6,e7,e8,aL,s122,cq ph,w1];exact⟨au,ms,cs,c,d,aa,aa,aq,xP.next fun h=>absurd (List.contains_iff_mem.2 h) (by rw[show((k:Nat):Int)+1=((k+1:Nat):Int) by omega,hc];decide),⟨fun m hm=>by have:=ua.1 m hm;omega,ua.2⟩,rfl,rfl,gm,gc⟩
  |true=>
   have nC:((k+1:Nat):Int)∈want:=by simpa using hc
   obtain⟨ns,⟨hns,Hc,yS,Be⟩,pc⟩:=ahE g aM (hw _ nC);rw[hc] at ph;simp only[go_sem,i100_l3,e0,e1,e8,aL,s122,cq ph,s123];refine pI pc nI (.inl rfl) fun cc bt gl cQ=>?_;have AQ:=gm.of_eq (cQ 6400768192 ae);have gc1:=gc.of_eq (cQ 6400768448 ae);rcases gl with ⟨e,e2⟩|⟨_,gg,e,AZ⟩
   .cases e2;simp only[go_sem];refine lU ?_;simp only[go_sem,i100_l1,i100_r2,e0,e1,e6,e7,e8,zz,w1];exact⟨au,ms,cs,c,d,aa,aa,aq,xP.next fun _=>⟨ns,yS,fun m hm=>by rw[show ns=[] by simpa [mP] using e] at hm;cases hm⟩,⟨fun m hm=>by have:=ua.1 m hm;omega,ua.2⟩,rfl,rfl,AQ,gc1⟩
   cases e;rw[rm];simp only[go_sem];refine cS (fun j ak aj=>ak 0=.one (.p (ek F ls))/\ak 1=.one (.p (.sl (iP want)))/\ak 8=vi ((k+1:Nat):Int)/\ak 23=.one (.hsl 6400448128 gg 7 0 ns.length)/\ak 24=vi ns.length/\ak 25=vi j/\aj 6400448128=(gg,some (.arr hY 7 (mP ns)))/\ ∃ms cs c d,ms.length<=800*k+j/\cs.length<=800*k+j/\(∀m∈ms,ui F ls want m)/\CS F ls want ((k:Nat):Int) ms/\(∀i,i<j->∀m,ns[i]?=some m->(∃M,mB F ls m.k m.a m.b m.c m.l m.o m.s=kA F M)->m∈ms)/\((∀m∈ms,m.k<=(k:Int)\/(m.k=((k+1:Nat):Int)/\m∈ns.take j))/\ms.Pairwise tg)/\ak 6=.one c/\ak 7=.one d/\grown 6400768192 hY 7 (mP ms) (.one c) aj/\grown 6400768448 B3 2 cs (.one d) aj) 0 ns.length (bn _) ?_ ?_
   .simp only[go_sem,e0,e1,e6,e7,e8];exact⟨rfl,AZ,ms,cs,c,d,aa,aa,aq,xP,fun i h=>absurd h (mv _),⟨fun m hm=>.inl (ua.1 m hm),ua.2⟩,rfl,rfl,AQ,gc1⟩
   clear gm gc AQ gc1 aq CG cX AZ cQ xP ua e0 e1 e6 e7 e8;rintro j ak aj hj ⟨q0,q1,q8,sC,oO,zH,bL,ms,cs,c,d,CG,cX,aq,xP,j7,ua,q6,q7,gm,gc⟩
   by_cases re:j<ns.length
   .have Ey:((j:Int)<(ns.length:Int)):=aa;have w2:=bQ (n:=j) aa;obtain⟨m,lG⟩:=aN re;have jz:=Le lG;have qD:=Hc m (aW lG);have G9:m.k=((k+1:Nat):Int):=qD.choose_spec.2.1;have hmlen:(mP ns).length=ns.length:=rm ns;have Cx:k5 m.k:=by rw[G9];exact hw _ nC
    have pd:=do5 g Cx m.a m.b m.c m.l m.o m.s;rcases Qb g Cx m.a m.b m.c m.l m.o m.s with ⟨e,he,ha⟩|⟨M,ha,_⟩
    .rw[ha] at pd;have En:(e==0)=false:=by simpa using he
     simp only[go_sem,i100_l1,q0,q1,q6,q7,q8,sC,oO,zH,bL,re,Ey,jz,aU.ps,s78,cK pd amb,En,w2];exact⟨ms,cs,c,d,aa,aa,aq,xP,fun i hi m' j8 hM=>by
      by_cases ei:i=j
      .rw[ei,lG] at j8;cases j8;obtain⟨M,hM⟩:=hM;rw[ha] at hM;exact absurd hM.symm (apa he)
      exact j7 i aa m' j8 hM,adK ua,rfl,rfl,gm.of_eq (by simp only[aS,Nat.reduceEqDiff,if_false]),gc.of_eq (by simp only[aS,Nat.reduceEqDiff,if_false])⟩
    have ak2:ui F ls want m:=⟨by rw[G9];exact nC,by rw[G9];exact qD,M,ha⟩;rw[ha] at pd;simp only[go_sem,i100_l1,q0,sC,oO,zH,bL,re,Ey,jz,aU.ps,s78];refine aae pd wK fun cx bd gx aZ=>?_;have b10:=aZ 6400576128 ae;simp only[go_sem] at b10;have bL2:=(aZ 6400448128 ae).trans ((aT ae).trans ((aT ae).trans bL));have Ed:=gm.of_eq ((aZ 6400768192 ae).trans (by simp only[aS,Nat.reduceEqDiff,if_false]));have oh:=gc.of_eq ((aZ 6400768448 ae).trans (by simp only[aS,Nat.reduceEqDiff,if_false]));have CF:∀m'∈ms++[m],ui F ls want m':=fun m' h=>(fi.1 h).elim (aq m') fun h=>(rF.1 h)▸ak2
    have aaS:∀i,i<j+1->∀m',ns[i]?=some m'->(∃M,mB F ls m'.k m'.a m'.b m'.c m'.l m'.o m'.s=kA F M)->m'∈ms++[m]:=fun i hi m' j8 hM=>by
     by_cases ei:i=j
     .rw[ei,lG] at j8;cases j8;simp
     exact FA _ (j7 i aa m' j8 hM)
    have aaI:=xP.app m;have aa5:=anQ ua Be G9 lG;have yc:mP (ms++[m])=mP ms++[aU.ps m]:=by simp[mP]
    rcases gx with ⟨eM,e2⟩|⟨akV,g2,e2,hbx⟩
    .cases e2;simp only[go_sem,b10,q6];refine tJ (site:=6400768192) (id:=6400768192) (bytes:=48) (xs:=[aU.ps m]) (rd:=[6400768128]) (Ed.of_eq (by simp only[aS,Nat.reduceEqDiff,if_false])) (by simp[eN,aS,aU.ps]) (.inl rfl) (by simp only[rm,dp,eP];omega) fun c' iQ r1 u1 gK iU jT=>?_;have Jc:=iU 6400640384 ae ae;simp only[go_sem] at Jc;simp only[go_sem,Jc,q7];have gc3:=oh.of_eq ((iU 6400768448 ae ae).trans (by simp only[aS,Nat.reduceEqDiff,if_false]:_=bd 6400768448));refine tJ (site:=6400768448) (id:=6400768448) (bytes:=32) (xs:=[[.int .i64 F,.sl []]]) (rd:=[6400768384]) (gc3.of_eq (aT ae)) (by simp[eN,aS]) (.inl rfl) (by simp only[dp,eP];omega) fun d' xt r2 u2 yU eo rj=>?_
     have Je:=(eo 6400448128 ae ae).trans ((aT ae).trans (iU 6400448128 ae ae));simp only[aS,Nat.reduceEqDiff,if_false] at Je;have bL5:=Je.trans bL2;simp only[go_sem,q0,q1,q6,q7,q8,sC,oO,zH,bL5,w2,re];refine⟨?_,ms++[m],_,c',d',by simp;omega,by simp;omega,CF,aaI,aaS,aa5,rfl,rfl,?_,yU⟩
     .rcases jT with ⟨rfl,rfl⟩|⟨rfl,rfl⟩|⟨rfl,rfl⟩<;>rcases rj with ⟨rfl,rfl⟩|⟨rfl,rfl⟩|⟨rfl,rfl⟩<;>kernel_rfl
     rw[yc];exact gK.of_eq ((eo 6400768192 ae ae).trans (aT ae))
    cases e2;simp only[go_sem,b10,q6];refine tJ (site:=6400768192) (id:=6400768192) (bytes:=48) (xs:=[aU.ps m]) (rd:=[6400768128]) (Ed.of_eq (by simp only[aS,Nat.reduceEqDiff,if_false])) (by simp[eN,aS,aU.ps]) (.inl rfl) (by simp only[rm,dp,eP];omega) fun c' iQ r1 u1 gK iU jT=>?_;have Jc:=iU 6400640384 ae ae;simp only[go_sem] at Jc;simp only[go_sem,Jc,q7];have bx3:=(iU (6400640128+1) ae ae);simp only[Nat.reduceAdd,aS,Nat.reduceEqDiff,if_false] at bx3 hbx;have hx3:=bx3.trans hbx;have gx3:grown (6400640128+1) fU 6 (cM M) (.one (.hsl (6400640128+1) g2 6 0 M.length)) iQ:=.inr ⟨akV,g2,by rw[cM,cG],hx3⟩
    obtain⟨fr,hx,wg,A4⟩:=aiN (aj:=df iQ 6400768384 ((iQ 6400768384).1+1,some (.gQ B3 2 [[.p (.int .i64 F),.hsl (6400640128+1) g2 6 0 M.length]]))) (s:=6400768384) rC (gx3.of_eq (aT ae));have gc3:=oh.of_eq ((iU 6400768448 ae ae).trans (by simp only[aS,Nat.reduceEqDiff,if_false]:_=bd 6400768448));have nf:∀i,i≠6400640128+1->i∉fr:=fun i a h=>by
     rcases A4 with rfl|rfl
     .cases h
     exact a (rF.1 h)
    refine ain (site:=6400768448) (id:=6400768448) (bytes:=32) (gc3.of_eq (aT ae)) hx wg (nf _ ae) (nf _ ae) (.inl rfl) (by simp only[dp,eP];omega) fun d' xt r2 u2 yU eo rj=>?_;have Je:=(eo 6400448128 ae ae (nf _ ae)).trans ((aT ae).trans (iU 6400448128 ae ae));simp only[aS,Nat.reduceEqDiff,if_false] at Je;have bL5:=Je.trans bL2;simp only[go_sem,q0,q1,q6,q7,q8,sC,oO,zH,bL5,w2,re];refine⟨?_,ms++[m],_,c',d',by simp;omega,by simp;omega,CF,aaI,aaS,aa5,rfl,rfl,?_,yU⟩
    .rcases A4 with rfl|rfl<;>rcases jT with ⟨rfl,rfl⟩|⟨rfl,rfl⟩|⟨rfl,rfl⟩<;>rcases rj with ⟨rfl,rfl⟩|⟨rfl,rfl⟩|⟨rfl,rfl⟩<;>kernel_rfl
    rw[yc];exact gK.of_eq ((eo 6400768192 ae ae (nf _ ae)).trans (aT ae))
   have:j=ns.length:=aa;subst this;simp only[go_sem,i100_l1,i100_r2,q0,q1,q6,q7,q8,oO,zH,dI,w1];exact⟨au,ms,cs,c,d,aa,aa,aq,xP.next fun _=>⟨ns,yS,fun m hm hM=>by obtain⟨i,hi⟩:=gH hm;exact j7 i (aY.1 hi).1 m hi hM⟩,⟨fun m hm=>by rcases ua.1 m hm with h|h<;>omega,ua.2⟩,rfl,rfl,gm,gc⟩
 have:k=10:=aa;subst this;have iV:¬(((10+1:Nat):Int)<=10):=ae;simp only[go_sem,i100_l3,i100_r4,e6,e7,e8,iV];exact⟨_,⟨ms,cs,⟨CG,aq,xP,ua.2⟩,rfl⟩,GF ae gm gc⟩
theorem aqz(g:bK F ls)(aM:0<ls.length)(want:List Int)(kM:want.length<=10)(hw:∀k∈want,te k):∃ms cs,(ms.length<=8000/\ ∀m∈ms,ui F ls want m)/\aJ S 100 [.one (.p (ek F ls)),.one (.p (.sl (iP want)))] (.tup [.one (aO hY 7 (mP ms)),.one (aO B3 2 cs)]):=by obtain⟨ms,cs,⟨h1,h2,_⟩,h⟩:=aeP g aM want kM hw;exact⟨ms,cs,⟨h1,h2⟩,h⟩
end
theorem Ui{l:List Pc}{drop:Nat->Pc->Bool}{i:Nat}{p:Pc}(hp:l[i]?=some p)(hd:drop i p=true):(jQ l drop).length<l.length:=by
 have hi:=(aY.1 hp).1;have key:∀k,k<=l.length->i<k->(rl l drop k).length<k:=by
  intro k
  induction k with
  |zero=>intro _ h;exact absurd h (mv i)
  |succ k ih=>
   intro hk hik;by_cases e:i=k
   .subst e;rw[zn hp hd];have:=EP l drop i;omega
   obtain⟨q,hq⟩:=aN (ls:=l) (k:=k) aa;have:=ih aa aa;cases vZ:drop k q
   .rw[HB hq vZ,fH];simp only[dp,eP];omega
   rw[zn hq vZ];omega
 exact key l.length (cA _) hi
theorem ZM{q:Let->Bool}(l:List Pc):ay q (kK l)=l.countP fun p=>q p.l:=by
 have e:ay q (l.map Pc.l)=l.countP fun p=>q p.l:=by show List.countP _ (List.map _ _)=_;rw[DE];rfl
 rw[<- e];have hf:(qw l).getD 0<=l.length:=by
  cases h:qw l with
  |none=>exact bn _
  |some f=>have:=IT h;simp at this;simp only[kE];omega
 unfold kK;rw[Vr hf];show List.countP _ _=List.countP _ _;rw[km,vv,PC,<- vv,<- km,tz]
section
variable {F:Nat} {ls:List Let}
theorem am5{k:Int}(hk:k=1\/k=4\/k=6){a b c:Nat}{l o:Bool}{sg:Int}(ha:a<ls.length){L:List Pc}(h:mT F ls k a b c l o sg=some L):L.length<ls.length:=by
 obtain⟨p,hp⟩:=aN (ls:=pieces ls) (k:=a) (by rw[fG];exact ha);have bG:=fG ls;have hg:(pieces ls).getD a ⟨iM,false⟩=p:=by simp[cU,hp]
 rcases hk with rfl|rfl|rfl
 .have h:uF ls a=some L:=h;unfold uF at h;simp only at h;split at h
  .cases h;show(List.map _ _).length<_;rw[cG,<- bG];exact Ui hp af
  cases h
 .have h:vj ls a=some L:=h;unfold vj at h;simp only at h;rw[hg] at h;split at h
  .rename_i hc;cases h;show(List.map _ _).length<_;rw[cG,<- bG];simp only[cE] at hc;exact Ui hp (by unfold nk;rw[hc.1];simp)
  cases h
 have h:ti F ls a b=some L:=h;unfold ti at h;rw[jo hp] at h;split at h
 .rename_i hc;cases h;show(List.map _ _).length<_;rw[cG,<- bG];have nz:(p.l.kind==2)=true:=by
   simp only[cE,oY] at hc;unfold iB at hc;rw[jo hp] at hc;simp only[cE] at hc;rcases hc.1 with h|h
   .exact h.1.1
   exact h.1.1
  exact Ui hp (by unfold nk;rw[nz];simp)
 cases h
theorem aij(g:bK F ls)(hm:ui F ls want m)(hk:m.k=1\/m.k=4\/m.k=6):∃M,mB F ls m.k m.a m.b m.c m.l m.o m.s=kA F M/\dT F M=0/\M.length<ls.length/\ay Let.aG M<=ay Let.aG ls/\ay Let.aB M<=ay Let.aB ls:=by
 obtain⟨_,⟨av,ha,_,ea,_⟩,M0,e0⟩:=hm;have Cx:k5 m.k:=by unfold k5;omega
 rcases Qb g Cx m.a m.b m.c m.l m.o m.s with ⟨e,he,h⟩|⟨M,h,hc,_,L,hL,rfl⟩
 .rw[e0] at h;unfold kA pZ at h;simp only[RV.tup.injEq,yE,RV.one.injEq,RC.p.injEq,PV.int.injEq,and_true,true_and] at h;exact absurd h.2.symm he
 rw[ea,wX] at hL;have bG:=fG ls;have au:=am5 hk ha hL;have hb:m.b.toNat<ls.length\/(m.k≠3/\m.k≠8):=.inr ⟨aa,aa⟩;have qA:m.c.toNat<ls.length\/m.k≠8:=.inr aa;have kC:ER (fun p=>p.l.aB):=fun p p' h=>by show(p.l.kind==2)=(p'.l.kind==2);rw[h]
 have kP:ER (fun p=>p.l.aG):=fun p p' h=>by show(p.l.kind==1)=(p'.l.kind==1);rw[h]
 have pq:∀q:Let->Bool,(pieces ls).countP (fun p=>q p.l)=ay q ls:=fun q=>by rw[<- Ox (ls:=ls) q];show _=List.countP _ (List.map _ _);rw[DE];rfl
 have c1:=N7 g kP Cx ha hb qA hL;have c2:=N7 g kC Cx ha hb qA hL;rw[pq] at c1 c2;exact⟨_,h,hc,by rw[aju];exact au,by rw[ZM];exact c1,by rw[ZM];exact c2⟩
end
section
variable {F:Nat}
theorem ahD{k:Int}(hk:(k==2)=false):aJ S 123 [.one (.p (ek F [])),vi k] (.one (aO hY 7 [])):=by have bG:(dB (pieces [])).length=0:=rfl;have h7:(((0:Nat):Int)==0)=true:=ae;refine bc c123 ?_;simp only[go_sem,i123,i123_r12,bG,h7,hk];refine lU ?_;simp only[go_sem,i123_l10,i123_r11,zz];rfl
theorem aqx(want:List Int)(kM:want.length<=10)(hw:∀k∈want,te k):aJ S 100 [.one (.p (ek F [])),.one (.p (.sl (iP want)))] (.tup [.one (aO hY 7 []),.one (aO B3 2 [])]):=by
 have nI:S.lone 6400448128=false:=ah;refine bc c100 ?_;simp only[go_sem,i100];refine cS (fun k ak aj=>ak 0=.one (.p (ek F []))/\ak 1=.one (.p (.sl (iP want)))/\ak 8=vi ((k+1:Nat):Int)/\ak 6=.one (.p .nils)/\ak 7=.one (.p .nils)) 0 10 (bn _) ?_ ?_
 .simp only[go_sem];rfl
 rintro k ak aj hk ⟨e0,e1,e8,e6,e7⟩
 by_cases au:k<10
 .have aL:((k+1:Nat):Int)<=10:=aa;have w1:=bQ (n:=k+1) aa;have ph:=XQ want ((k+1:Nat):Int) aa;cases hc:want.contains ((k+1:Nat):Int) with
  |false=>rw[hc] at ph;simp only[go_sem,i100_l3,i100_r2,e0,e1,e6,e7,e8,aL,s122,cq ph,w1];exact au
  |true=>
   have nC:((k+1:Nat):Int)∈want:=by simpa using hc
   have pc:=ahD (F:=F) (k:=((k+1:Nat):Int)) (rI.2 (by have:=hw _ nC;unfold te k5 at this;omega));rw[hc] at ph;simp only[go_sem,i100_l3,e0,e1,e8,aL,s122,cq ph,s123];refine pI pc nI (.inl rfl) fun cc bt gl cQ=>?_;rcases gl with ⟨e,e2⟩|⟨h,_⟩
   .cases e2;simp only[go_sem];refine lU ?_;simp only[go_sem,i100_l1,i100_r2,e0,e1,e6,e7,e8,zz,w1];exact au
   exact absurd rfl h
 have:k=10:=aa;subst this;have iV:¬(((10+1:Nat):Int)<=10):=ae;simp only[go_sem,i100_l3,i100_r4,e6,e7,e8,iV];rfl
end
section
variable {F:Nat} {ls:List Let}
theorem ahS(h:dT (F:Int) []=0):F<=40:=by
 unfold dT at h;rw[aD ae] at h;by_cases hf:(F:Int)<0\/40<(F:Int)
 .rw[aE hf] at h;cases h
 omega
theorem aqy(h:dT (F:Int) ls=0)(want:List Int)(kM:want.length<=10)(hw:∀k∈want,te k):∃ms cs,(ms.length<=8000/\ ∀m∈ms,ui F ls want m)/\aJ S 100 [.one (.p (ek F ls)),.one (.p (.sl (iP want)))] (.tup [.one (aO hY 7 (mP ms)),.one (aO B3 2 cs)]):=by
 by_cases aM:ls=[]
 .subst aM;exact⟨[],[],⟨af,fun m h=>by cases h⟩,aqx want kM hw⟩
 obtain⟨G,e,g⟩:=Ce h aM;have:F=G:=aa;subst this;exact aqz g (kY.2 aM) want kM hw
theorem anp(h:dT (F:Int) ls=0):aJ S 77 [cY F ls] (yx (ek F ls) (.int .i64 0)):=by
 by_cases aM:ls=[]
 .subst aM;exact ann (ahS h)
 obtain⟨G,e,g⟩:=Ce h aM;have:F=G:=aa;subst this;exact UU g
theorem WT(h:dT (F:Int) ls=0)(want:List Int)(kM:want.length<=10)(hw:∀k∈want,te k):∃ms,(ms.length<=8000/\ ∀m∈ms,ui F ls want m)/\aJ S 66 [cY F ls,.one (.p (.sl (iP want)))] (.tup [.one (aO hY 7 (mP ms)),.one (.p (.int .i64 0))]):=by obtain⟨ms,cs,hm,ps⟩:=aqy h want kM hw;have po:=anp h;have lo:S.lone 4224256128=false:=ah;refine⟨ms,hm,?_⟩;refine bc c66 ?_;simp only[go_sem,i66,s77,cK po gn,s100];refine GB ps lo fun c d bt gc gd hb=>?_;simp only[go_sem];exact vM gc
theorem WU(g:bK F ls)(want:List Int)(kM:want.length<=10)(hw:∀k∈want,te k):∃ms,(ms.length<=8000/\(∀m∈ms,ui F ls want m)/\CS F ls want 10 ms/\ms.Pairwise tg)/\aJ S 66 [cY F ls,.one (.p (.sl (iP want)))] (.tup [.one (aO hY 7 (mP ms)),.one (.p (.int .i64 0))]):=by obtain⟨ms,cs,hm,ps⟩:=aeP g (kY.2 g.ne) want kM hw;have po:=UU g;have lo:S.lone 4224256128=false:=ah;refine⟨ms,hm,?_⟩;refine bc c66 ?_;simp only[go_sem,i66,s77,cK po gn,s100];refine GB ps lo fun c d bt gc gd hb=>?_;simp only[go_sem];exact vM gc
abbrev vq:List Int:=[1,4,6]
theorem Ly:∀k∈vq,te k:=by intro k h;simp only[dh,lT,or_false] at h;unfold te k5;omega
abbrev Br(m:aU)(b:Bool):RV:=.tup [.agg (m.ps.map .p),.one (.p (.bool b))]
theorem Vu(ms:List aU):((mP ms).all fun e=>e.all PV.scalar)=true:=by rw[ij];intro e he;obtain⟨i,_,rfl⟩:=dy.1 he;rfl
abbrev Pl:aU:=⟨0,0,0,0,false,false,0⟩
def hdV:List aU->RV
 |[]=>Br Pl false
 |m::_=>Br m true
theorem Vo(ps:aJ S 66 [cY F ls,.one (.p (.sl (iP vq)))] (.tup [.one (aO hY 7 (mP ms)),.one (.p (.int .i64 0))])):aJ S 34 [cY F ls] (hdV ms):=by
 have ps':aJ S 66 [cY F ls,.one (.p (.sl [[.int .i64 1],[.int .i64 4],[.int .i64 6]]))] (.tup [.one (aO hY 7 (mP ms)),.one (.p (.int .i64 0))]):=ps;have lo:S.lone 2176064128=false:=ah;refine bc c34 ?_;simp only[go_sem,i34,s66];refine ajV ps' lo (Vu _) rfl fun c bt gc hb=>?_;have b2:=hb 2176000064 ae;simp only[go_sem] at b2;cases ms with
 |nil=>
  rcases gc with ⟨_,e2⟩|⟨h,_⟩
  .cases e2;have JV:(((0:Nat):Int)==0)=true:=ae;simp only[go_sem,JV,b2];rfl
  exact absurd rfl h
 |cons m r=>
  rcases gc with ⟨h,_⟩|⟨_,gg,e2,hC⟩
  .cases h
  cases e2;have hl:(mP (m::r)).length=r.length+1:=by simp[mP]
  have JV:(((r.length+1:Nat):Int)==0)=false:=by rw[rI];omega
  have au:0<r.length+1:=aa;have jz:(mP (m::r))[0]?=some m.ps:=rfl;rw[hl];generalize mP (m::r)=es at*;simp only[go_sem,JV,b2,hC,jz,au,aU.ps];rfl
theorem aoT(h:dT (F:Int) ls=0):(∃m,ui F ls vq m/\(¬aJ S 66 [cY F ls,.one (.p (.sl (iP vq)))] (.tup [.one (aO hY 7 []),.one (.p (.int .i64 0))]))/\aJ S 34 [cY F ls] (Br m true))\/(aJ S 66 [cY F ls,.one (.p (.sl (iP vq)))] (.tup [.one (aO hY 7 []),.one (.p (.int .i64 0))])/\aJ S 34 [cY F ls] (Br Pl false)):=by
 obtain⟨ms,⟨_,hm⟩,ps⟩:=WT h vq ae Ly;have pr:=Vo ps;cases ms with
 |nil=>exact .inr ⟨ps,pr⟩
 |cons m r=>
  exact .inl ⟨m,hm m af,(fun h=>by have:=ps.uO h;simp[aO] at this),pr⟩
end
theorem aaf{Q:dS}{ak:Env}{aj:aA}{os:List bR}{d:Option Nat}{f:Nat}{vs:List V}{s t1 z1 t2 z2:Nat}{rd:List Nat}{es fs:List (List PV)}{x:PV}(hp:aJ S f vs (.tup [.agg [.p x,aO t1 z1 es],.one (aO t2 z2 fs)]))(eU:S.lone s=false)(hx:x.scalar=true)
  (a1:(es.all fun e=>e.all PV.scalar)=true) (a2:(fs.all fun e=>e.all PV.scalar)=true)
  (hK:∀(c e:C) ao,grown (s+1) t1 z1 es (.one c) ao->grown (s+2) t2 z2 fs (.one e) ao->(∀i,i≠s+1->i≠s+2->ao i=aj i)->RN S .all os Q (put ak d (.tup [.agg [.p x,c],.one e])) ao):gP S .all (.pc f vs rd s) d os Q ak aj:=by
 obtain⟨h1,h2,_⟩:=uf (aj:=aj) (s:=s+1) (ty:=t1) (z:=z1) (es:=es);have e0:∀(b b':aA) (k:Nat) (r:RC),b' k=b k->dd b k r=dd b' k r:=by
  intro b b' k r h;cases r with
  |p v=>rfl
  |own ty sz es=>simp only[dd,h]
 have e2:dd aj (s+2) (aO t2 z2 fs)=dd (app (dd aj (s+1) (aO t1 z1 es)).2 aj) (s+2) (aO t2 z2 fs):=e0 _ _ _ _ (h2 (s+2) aa);obtain⟨k1,k2,_⟩:=uf (aj:=app (dd aj (s+1) (aO t1 z1 es)).2 aj) (s:=s+2) (ty:=t2) (z:=z2) (es:=fs);rw[<- e2] at k1 k2;have Ei:∀(a b:List dY) (c:aA),app (a++b) c=app b (app a c):=by
  intro a
  induction a with
  |nil=>intro b c;rfl
  |cons x a ih=>intro b c;exact ih b _
 have fO:(RV.tup [.agg [.p x,aO t1 z1 es],.one (aO t2 z2 fs)]).alone=true:=by
  have a:=mY (ty:=t1) (z:=z1) a1;have b:=mY (ty:=t2) (z:=z2) a2;have Hp:(RV.one (.p x)).alone=true:=by show(x.scalar&&true)=true;rw[hx];rfl
  skip
  simp only[RV.alone,gJ,gZ,qM,tv,zU] at a b Hp;simp only[RV.alone,gJ,nu,gZ,DD,gi,qh,qM,tv,zU,a,b,Hp]
 refine(cK (v:=.tup [.agg [.p x,(dd aj (s+1) (aO t1 z1 es)).1],.one (dd aj (s+2) (aO t2 z2 fs)).1]) (u:=(dd aj (s+1) (aO t1 z1 es)).2++(dd aj (s+2) (aO t2 z2 fs)).2) hp ?_).2 (hK _ _ _ ?_ ?_ ?_)
 .rw[eU,uq];unfold land;rw[aE (.inr fO)];simp[gk,gJ,nu,gZ,iX,sD,sE,mU,dd]
 .rw[Ei];exact h1.of_eq (k2 (s+1) aa)
 .rw[Ei];exact k1
 intro i a b;rw[Ei,k2 i b,h2 i a]
theorem adv{s1 t1 z1 s2 t2 z2:Nat}{es fs:List (List PV)}{c d:C}{x:PV}{aj:aA}(hs:s1≠s2)(h:grown s1 t1 z1 es (.one c) aj)(h':grown s2 t2 z2 fs (.one d) aj):fv aj (.tup [.agg [.p x,c],.one d])=some (.tup [.agg [.p x,aO t1 z1 es],.one (aO t2 z2 fs)]):=by obtain⟨c',o,hc,h2,h3⟩:=h.fm;cases hc;obtain⟨d',q,hd,k2,k3⟩:=h'.fm;cases hd;have e1:fm aj (.p x)=some (.p x,[],[]):=rfl;rcases h3 with rfl|rfl<;>rcases k3 with rfl|rfl<;>simp[fv,ll,qU,jx,iY,h2,k2,e1,apart,oQ,mq,yw,hs]
theorem adw{s1 t1 z1 s2 t2 z2:Nat}{es fs:List (List PV)}{c d:C}{x y:PV}{aj:aA}(hs:s1≠s2)(h:grown s1 t1 z1 es (.one c) aj)(h':grown s2 t2 z2 fs (.one d) aj):fv aj (.tup [.agg [.p x,c],.one d,.one (.p y)])=some (.tup [.agg [.p x,aO t1 z1 es],.one (aO t2 z2 fs),.one (.p y)]):=by obtain⟨c',o,hc,h2,h3⟩:=h.fm;cases hc;obtain⟨d',q,hd,k2,k3⟩:=h'.fm;cases hd;have e1:fm aj (.p x)=some (.p x,[],[]):=rfl;have e2:fm aj (.p y)=some (.p y,[],[]):=rfl;rcases h3 with rfl|rfl<;>rcases k3 with rfl|rfl<;>simp[fv,ll,qU,jx,iY,h2,k2,e1,e2,apart,oQ,mq,yw,hs]
theorem K8{aj:aA}{rd:List Nat}{s:Nat}{b:Bool}{l:Bool}:land aj rd s ((Br m b).eG l)=some (.tup [.agg [.p (.int .i64 m.k),.p (.int .i64 m.a),.p (.int .i64 m.b),.p (.int .i64 m.c),.p (.bool m.l),.p (.bool m.o),.p (.int .i64 m.s)],.one (.p (.bool b))],[]):=by cases l<;>(unfold land;rw[aE (.inr rfl)];rfl)
def Lk(F:Nat)(L:List Let):Prop:=aJ S 66 [cY F L,.one (.p (.sl (iP vq)))] (.tup [.one (aO hY 7 []),.one (.p (.int .i64 0))])
theorem amA:∀ {A B:List Let},cM A=cM B->A=B:=by
 intro A
 induction A with
 |nil=>intro B h;cases B with
  |nil=>rfl
  |cons _ _=>cases h
 |cons a A ih=>
  intro B h;cases B with
  |nil=>cases h
  |cons b B=>have h:a.ps::cM A=b.ps::cM B:=h;rw[yE] at h;rw[ih h.2];have h1:=h.1;cases a;cases b;simp only[Let.ps,yE,PV.int.injEq,PV.bool.injEq,and_true,true_and] at h1;obtain⟨rfl,rfl,rfl,rfl,rfl,rfl⟩:=h1;rfl
theorem apc{A B:List Let}(h:kA F A=kA F B):A=B:=by
 unfold kA at h;simp only[RV.tup.injEq,yE,RV.agg.injEq,and_true,true_and] at h;unfold aO at h;by_cases hA:cM A=[]
 .by_cases hB:cM B=[]
  .rw[afJ.1 hA,afJ.1 hB]
  rw[aE hA,aD hB] at h;cases h
 by_cases hB:cM B=[]
 .rw[aD hA,aE hB] at h;cases h
 rw[aD hA,aD hB] at h;simp only[RC.own.injEq,true_and] at h;exact amA h
theorem Vq{L:List Let}{e:Int}(he:e≠0):kA F L≠pZ e:=fun h=>by unfold kA pZ at h;simp only[RV.tup.injEq,yE,RV.one.injEq,RC.p.injEq,PV.int.injEq,and_true,true_and] at h;exact he h.2.symm
theorem W8{M:List Let}(aM:ls≠[])(h:mB F ls m.k m.a m.b m.c m.l m.o m.s=kA F M):ju F ls m=some M:=by
 unfold ju;rw[aD aM];unfold mB at h;by_cases hA:cD F ls m.k m.a m.b m.c m.l m.o m.s=true
 .rw[aE hA] at h ⊢;cases hM:mT F ls m.k m.a.toNat m.b.toNat m.c.toNat m.l m.o m.s with
  |none=>rw[hM] at h;exact absurd h.symm (Vq ae)
  |some L=>
   rw[hM] at h;dsimp only;by_cases hc:(400:Int)<(ls.length:Int)+(kx m.k).1\/(100:Int)<((ay Let.aB ls/2:Nat):Int)+(kx m.k).2
   .have e2:xC F ls m.k (some L)=pZ 7:=aE hc;rw[e2] at h;exact absurd h.symm (Vq ae)
   have e2:xC F ls m.k (some L)=kA F (kK L):=aD hc;rw[e2] at h;rw[aD hc,apc h]
 rw[aD hA] at h;exact absurd h.symm (Vq ae)
def okR(F:Nat)(L:List Let)(m:aU):Prop:=ui F L vq m/\aJ S 34 [cY F L] (Br m true)
structure yG (F:Nat) (ls:List Let) (ms:List aU) (L:List Let):Prop where
 len:L.length+ms.length<=ls.length
 chk:dT (F:Int) L=0
 rep:tj F ls ms=some L
 kind:∀m∈ms,m.k∈vq
 rdg:∀(i:Nat) (m:aU),ms[i]?=some m->∃K,tj F ls (ms.take i)=some K/\dT (F:Int) K=0/\aJ S 34 [cY F K] (Br m true)
def Qk(F:Nat)(ls:List Let)(ms:List aU)(L:List Let)(c:C)(aj:aA):Prop:=(c=.p (hU L)/\ms=[]/\L=ls)\/grown 1216320129 fU 6 (cM L) (.one c) aj
theorem Qk.snap{L:List Let}{c:C}{aj:aA}(h:Qk F ls ms L c aj):∃r,∀B:aA,B 1216320129=aj 1216320129->Go.Abs.snap B fM c=some (hU L,r):=by
 rcases h with ⟨rfl,_,_⟩|h
 .exact⟨[],fun B _=>rfl⟩
 obtain⟨r,h1,_⟩:=h.Ih;exact⟨r,h1⟩
theorem yG.step{L:List Let}(h:yG F ls ms L)(h4:ls.length<=400)(hmr:okR F L m):∃M,aJ S 39 [cY F L,EX m] (kA F M)/\yG F ls (ms++[m]) M:=by
 have hm:=hmr.1;have aM:L≠[]:=by obtain⟨_,⟨a,ha,_⟩,_⟩:=hm;intro e;rw[e] at ha;exact absurd ha (mv a)
 obtain⟨G,e,g⟩:=Ce h.chk aM;have:F=G:=aa;subst this;have hk:m.k=1\/m.k=4\/m.k=6:=by
  have:=hm.1
  simpa using this
 obtain⟨M,ha,hc,au,_,_⟩:=aij g hm hk;have Cx:k5 m.k:=by unfold k5;omega
 have pa:=agM g Cx m.a m.b m.c m.l m.o m.s;rw[ha] at pa;have hl:=h.len;refine⟨M,pa,⟨by rw[fH];simp only[dp,eP];omega,hc,by rw[ad9 m h.rep];exact W8 aM ha,fun x hx=>?_,fun i x hx=>?_⟩⟩
 .rcases fi.1 hx with h1|h1
  .exact h.kind x h1
  rw[rF.1 h1];exact hm.1
 by_cases hi:i<ms.length
 .rw[uz hi] at hx;rw[Wt aa];exact h.rdg i x hx
 have e:i=ms.length:=by have:=(aY.1 hx).1;simp only[fH,dp,eP] at this;omega
 subst e;rw[vz (cA _),FI] at hx;cases hx;rw[Me];exact⟨L,h.rep,h.chk,hmr.2⟩
theorem yG.start(h:dT (F:Int) ls=0):yG F ls [] ls:=⟨cA _,h,rfl,fun m h=>(by cases h),fun i m h=>(by cases h)⟩
def redR(F:Nat)(ls:List Let)(ms:List aU)(M:List Let)(r:RV):Prop:=(ms=[]/\M=ls/\r=.tup [.agg [.p (.int .i64 F),.p (hU ls)],.one (.p .nils)])\/r=.tup [.agg [.p (.int .i64 F),aO fU 6 (cM M)],.one (aO hY 7 (mP ms))]
theorem aoS(GO:dT (F:Int) ls=0)(hlen:ls.length<=400):∃r,(∃ms M,yG F ls ms M/\Lk F M/\redR F ls ms M r)/\aJ S 19 [cY F ls] r:=by
 have nI:S.lone 1216320128=false:=ah;have red:∀L,dT (F:Int) L=0->∃m b,aJ S 34 [cY F L] (Br m b)/\(b=true->okR F L m)/\(b=false->Lk F L):=by
  intro L h;rcases aoT h with ⟨m,h1,_,h2⟩|⟨h1,h2⟩
  .exact⟨m,true,h2,fun _=>⟨h1,h2⟩,fun h=>(by cases h)⟩
  exact⟨Pl,false,h2,fun h=>(by cases h),fun _=>h1⟩
 refine BT rfl c19 (gj rfl) ?_;obtain⟨m0,b0,pr0,k1,k2⟩:=red ls GO;simp only[go_sem,i19,s34,cK pr0 K8];refine cS (fun k ak aj=>∃L ms c d m b gm idm,(idm=1216128320\/idm=1216512000)/\ak 1=.one (.ba 1216000000 1 0)/\ak 2=.one (.ba 1216000064 1 0)/\aj 1216000064=(1,some (.var [.p (.int .i64 0),.p .nils]))/\ak 6=.one (.p (.bool b))/\ak 4=.one d/\ak 5=.one (.ba idm gm 0)/\aj idm=(gm,some (.var (m.ps.map .p)))/\aj 1216000000=(1,some (.var [.p (.int .i64 F),c]))/\Qk F ls ms L c aj/\grown 1216384192 hY 7 (mP ms) (.one d) aj/\ms.length=k/\yG F ls ms L/\(b=true->okR F L m)/\(b=false->Lk F L)) 0 ls.length (bn _) ?_ ?_
 .simp only[go_sem];refine⟨ls,[],.p (hU ls),.p .nils,m0,b0,1,1216128320,.inl rfl,?_⟩;exact⟨rfl,rfl,rfl,rfl,rfl,.inl ⟨rfl,rfl,rfl⟩,grown.nil,rfl,yG.start GO,k1,k2⟩
 rintro k ak aj hk ⟨L,ms,c,d,m,b,gm,idm,hid,h1,h2,bZ,h6,h4,h5,bm,b0,hc,gp,qD,hR,aq,dm⟩
 rcases hid with rfl|rfl
 .have hcB:=hc;obtain⟨rd,lI⟩:=hcB.snap;simp only[aU.ps,eE,kZ] at bm;cases b with
  |false=>
   simp only[go_sem,i19_l1,i19_r2,h1,h2,h4,h6,b0,bZ];rcases hc with ⟨rfl,rfl,rfl⟩|gc
   .rcases gp with ⟨_,e2⟩|⟨aM,_⟩
    .cases e2;exact⟨_,⟨[],_,hR,dm rfl,.inl ⟨rfl,rfl,rfl⟩⟩,rfl⟩
    exact absurd rfl aM
   exact⟨_,⟨ms,L,hR,dm rfl,.inr rfl⟩,adv ae (gc.of_eq (aT ae)) (gp.of_eq (aT ae))⟩
  |true=>
   obtain⟨M,pa,Eh⟩:=hR.step hlen (aq rfl);obtain⟨m2,b2,pr2,k1,k2⟩:=red M Eh.chk;have aa2:=hR.len;simp only[go_sem,i19_l1,h1,h5,h6,bm,b0,lI,s39];refine aag pa nI rfl rfl (zN _) fun cc bt gc hb=>?_;have q0:=hb 1216000000 ae;have q1:=hb 1216128320 ae;have q2:=hb 1216000064 ae;simp only[go_sem,b0,bm,bZ] at q0 q1 q2;have gp1:=gp.of_eq (hb 1216384192 ae);simp only[go_sem,h1,h4,h5,q0,q1];refine mE (xs:=[aU.ps m]) (gp1.of_eq (by simp only[aS,Nat.reduceEqDiff,if_false])) (by simp only[eN,aS,if_true];rfl) (.inl rfl) (by simp only[rm,dp,eP];omega) fun d2 bd gp2 aZ=>?_
   have r0:=aZ 1216000000 ae ae;have r1:=aZ 1216128320 ae ae;have r2:=aZ 1216000064 ae ae;simp only[go_sem,q0,q1,q2] at r0 r1 r2;have oh:grown 1216320129 fU 6 (cM M) (.one cc) bd:=(show grown 1216320129 fU 6 (cM M) (.one cc) bt from gc).of_eq ((aZ 1216320129 ae ae).trans (by simp only[aS,Nat.reduceEqDiff,if_false]));obtain⟨rd2,eW,_⟩:=oh.Ih;simp only[go_sem,h1,h2,h4,h5,h6,r0,r1,r2,eW,s34,cK pr2 K8];have mJ:=Eh.len;rw[fH] at mJ
   simp only[dp,eP] at mJ;refine⟨aa,M,ms++[m],cc,d2,m2,b2,_,1216512000,.inr rfl,rfl,rfl,rfl,aE rfl,rfl,.inr (oh.of_eq (by simp only[aS,Nat.reduceEqDiff,if_false])),?_,by simp[qD],Eh,k1,k2⟩;rw[show mP (ms++[m])=mP ms++[aU.ps m] by simp[mP]];exact gp2.of_eq (by simp only[aS,Nat.reduceEqDiff,if_false])
 have hcB:=hc;obtain⟨rd,lI⟩:=hcB.snap;simp only[aU.ps,eE,kZ] at bm;cases b with
 |false=>
  simp only[go_sem,i19_l1,i19_r2,h1,h2,h4,h6,b0,bZ];rcases hc with ⟨rfl,rfl,rfl⟩|gc
  .rcases gp with ⟨_,e2⟩|⟨aM,_⟩
   .cases e2;exact⟨_,⟨[],_,hR,dm rfl,.inl ⟨rfl,rfl,rfl⟩⟩,rfl⟩
   exact absurd rfl aM
  exact⟨_,⟨ms,L,hR,dm rfl,.inr rfl⟩,adv ae (gc.of_eq (aT ae)) (gp.of_eq (aT ae))⟩
 |true=>
  obtain⟨M,pa,Eh⟩:=hR.step hlen (aq rfl);obtain⟨m2,b2,pr2,k1,k2⟩:=red M Eh.chk;have aa2:=hR.len;simp only[go_sem,i19_l1,h1,h5,h6,bm,b0,lI,s39];refine aag pa nI rfl rfl (zN _) fun cc bt gc hb=>?_;have q0:=hb 1216000000 ae;have q1:=hb 1216512000 ae;have q2:=hb 1216000064 ae;simp only[go_sem,b0,bm,bZ] at q0 q1 q2;have gp1:=gp.of_eq (hb 1216384192 ae);simp only[go_sem,h1,h4,h5,q0,q1];refine mE (xs:=[aU.ps m]) (gp1.of_eq (by simp only[aS,Nat.reduceEqDiff,if_false])) (by simp only[eN,aS,if_true];rfl) (.inl rfl) (by simp only[rm,dp,eP];omega) fun d2 bd gp2 aZ=>?_
  have r0:=aZ 1216000000 ae ae;have r1:=aZ 1216512000 ae ae;have r2:=aZ 1216000064 ae ae;simp only[go_sem,q0,q1,q2] at r0 r1 r2;have oh:grown 1216320129 fU 6 (cM M) (.one cc) bd:=(show grown 1216320129 fU 6 (cM M) (.one cc) bt from gc).of_eq ((aZ 1216320129 ae ae).trans (by simp only[aS,Nat.reduceEqDiff,if_false]));obtain⟨rd2,eW,_⟩:=oh.Ih;simp only[go_sem,h1,h2,h4,h5,h6,r0,r1,r2,eW,s34,cK pr2 K8];have mJ:=Eh.len;rw[fH] at mJ
  simp only[dp,eP] at mJ;refine⟨aa,M,ms++[m],cc,d2,m2,b2,_,1216512000,.inr rfl,rfl,rfl,rfl,aE rfl,rfl,.inr (oh.of_eq (by simp only[aS,Nat.reduceEqDiff,if_false])),?_,by simp[qD],Eh,k1,k2⟩;rw[show mP (ms++[m])=mP ms++[aU.ps m] by simp[mP]];exact gp2.of_eq (by simp only[aS,Nat.reduceEqDiff,if_false])
section
variable {F:Nat} {L:List Let}
theorem Qc(g:bK F L)(hk:k5 m.k):ju F L m=if cD F L m.k m.a m.b m.c m.l m.o m.s=true then (mT F L m.k m.a.toNat m.b.toNat m.c.toNat m.l m.o m.s).map kK else none:=by
 have hg:kx m.k=(0,0):=by unfold k5 at hk;rcases hk with h|h|h|h|h<;>rw[h]<;>rfl
 have h1:=g.len;have h2:=g.cr;unfold ju;rw[aD g.ne,hg];split
 .cases mT F L m.k m.a.toNat m.b.toNat m.c.toNat m.l m.o m.s with
  |none=>rfl
  |some X=>dsimp only;rw[aD aa];rfl
 rfl
theorem I4(g:bK F L)(hk:k5 m.k){X:List Let}(h:ju F L m=some X):dT (F:Int) X=0/\cD F L m.k m.a m.b m.c m.l m.o m.s=true/\ ∃P,mT F L m.k m.a.toNat m.b.toNat m.c.toNat m.l m.o m.s=some P/\X=kK P:=by
 rw[Qc g hk] at h;split at h
 case isFalse=>cases h
 rename_i hA;obtain⟨P,hP,rfl⟩:=dq.1 h;refine⟨?_,hA,P,hP,rfl⟩;rcases Qb g hk m.a m.b m.c m.l m.o m.s with ⟨e,he,h1⟩|⟨M',h1,h2,h3,Q,h4,rfl⟩
 .exfalso;have hg:kx m.k=(0,0):=by
   unfold k5 at hk;rcases hk with h|h|h|h|h<;>rw[h]<;>rfl
  have k1:=g.len;have k2:=g.cr;unfold mB at h1;rw[aE hA,hP] at h1;have e2:xC F L m.k (some P)=kA F (kK P):=aD (by rw[hg];dsimp only;omega);rw[e2] at h1;exact apb he h1
 rw[hP] at h4;cases h4;exact h2
abbrev mv2(k:Int)(a b:Nat):aU:=⟨k,a,b,0,false,false,0⟩
abbrev mv3(k:Int)(a b c:Nat):aU:=⟨k,a,b,c,false,false,0⟩
theorem tE{k a b c sg:Int}{l o:Bool}(hk:k=1\/k=4):cD F L k a b c l o sg=true↔ ∃av:Nat,av<L.length/\a=av/\b=0/\c=0/\l=false/\o=false/\sg=0:=by
 unfold cD;rcases hk with rfl|rfl
 all_goals
  simp only[Int.reduceEq,if_true,if_false,or_false,or_true,cE,kW,dk];constructor
  .rintro ⟨rfl,rfl,rfl,hx,rfl,rfl⟩
   obtain⟨av,rfl,ha⟩:=lJ hx;exact⟨av,ha,rfl,rfl,rfl,rfl,rfl,rfl⟩
  rintro ⟨av,ha,rfl,rfl,rfl,rfl,rfl,rfl⟩
  exact⟨rfl,rfl,rfl,by unfold iv;simp;omega,rfl,rfl⟩
theorem BY{k a b c sg:Int}{l o:Bool}(hk:k=3\/k=6):cD F L k a b c l o sg=true↔ ∃av bv:Nat,av<bv/\bv<L.length/\a=av/\b=bv/\c=0/\l=false/\o=false/\sg=0:=by
 unfold cD;rcases hk with rfl|rfl
 all_goals
  simp only[Int.reduceEq,if_true,if_false,or_false,or_true,cE,kW,dk,lh];constructor
  .rintro ⟨rfl,rfl,rfl,hx,rfl,hy,au⟩
   obtain⟨av,rfl,ha⟩:=lJ hx;obtain⟨bv,rfl,hb⟩:=lJ hy;exact⟨av,bv,aa,hb,rfl,rfl,rfl,rfl,rfl,rfl⟩
  rintro ⟨av,bv,ef,hb,rfl,rfl,rfl,rfl,rfl,rfl⟩
  exact⟨rfl,rfl,rfl,by unfold iv;simp;omega,rfl,by unfold iv;simp;omega,aa⟩
theorem agP{a b c sg:Int}{l o:Bool}:cD F L 8 a b c l o sg=true↔ ∃av bv cv:Nat,av<bv/\bv<cv/\cv<L.length/\a=av/\b=bv/\c=cv/\l=false/\o=false/\sg=0:=by
 unfold cD;simp only[Int.reduceEq,if_true,if_false,or_self,cE,kW,dk,lh];constructor
 .rintro ⟨rfl,rfl,rfl,hx,hy,hz,h1,h2⟩
  obtain⟨av,rfl,ha⟩:=lJ hx;obtain⟨bv,rfl,hb⟩:=lJ hy;obtain⟨cv,rfl,hc⟩:=lJ hz;exact⟨av,bv,cv,aa,aa,hc,rfl,rfl,rfl,rfl,rfl,rfl⟩
 rintro ⟨av,bv,cv,ef,GL,hc,rfl,rfl,rfl,rfl,rfl,rfl⟩
 exact⟨rfl,rfl,rfl,by unfold iv;simp;omega,by unfold iv;simp;omega,by unfold iv;simp;omega,aa,aa⟩
theorem amP:∀ {A B:List aU},mP A=mP B->A=B:=by
 intro A
 induction A with
 |nil=>intro B h;cases B with
  |nil=>rfl
  |cons b B=>cases h
 |cons a A ih=>
  intro B h;cases B with
  |nil=>cases h
  |cons b B=>
   have h:aU.ps a::mP A=aU.ps b::mP B:=h;obtain⟨h1,h2⟩:=List.cons.inj h;rw[ih h2];cases a;cases b;unfold aU.ps at h1;simp only[yE,PV.int.injEq,PV.bool.injEq,true_and,and_true] at h1;simp only[yE,aU.mk.injEq,and_true]
   simp_all
theorem akc{A B:List aU}(h:(RV.tup [.one (aO hY 7 (mP A)),.one (.p (.int .i64 0))])=.tup [.one (aO hY 7 (mP B)),.one (.p (.int .i64 0))]):A=B:=by
 simp only[RV.tup.injEq,yE,RV.one.injEq,and_true] at h;apply amP;unfold aO at h;by_cases a:mP A=[]<;>by_cases b:mP B=[]
 .rw[a,b]
 .rw[aE a,aD b] at h;cases h
 .rw[aD a,aE b] at h;cases h
 rw[aD a,aD b] at h;simp only[RC.own.injEq] at h;exact h.2.2
theorem XU{pl a b:Nat}(ef:a<b)(h:lW F L pl [a,b] a=true)(hs:∀j,j<2->jc kk a (jJ F L (2*a+j)).bj ns)(h8:kk≠8):mv2 kk a b∈ns:=by
 have key:∀f:Fc,tH f pl [a,b]=true->jc kk a f.bj ns->mv2 kk a b∈ns:=fun f hf hs=>by
  unfold tH at hf;simp only[cE,dk,ij] at hf;obtain⟨h1,_,h3⟩:=hf;have ex:∀e∈[a,b],∃d∈f.bj,d/2=e:=fun e he=>by have h4:=h3 e he;unfold sP at h4;obtain⟨d,hd,qB⟩:=vw.1 (show 0<f.bj.countP fun d=>d/2==e by omega);exact⟨d,hd,dk.1 qB⟩
  exact hs.1 h8 b ef h1 (ex a af) (ex b af)
 unfold lW at h;rw[oY] at h;rcases h with h|h
 .exact key _ h (hs 0 ae)
 exact key _ h (hs 1 ae)
theorem aia{pl a b c:Nat}(ef:a<b)(GL:b<c)(h:lW F L pl [a,b,c] a=true)(hs:∀j,j<2->jc 8 a (jJ F L (2*a+j)).bj ns):mv3 8 a b c∈ns:=by
 have key:∀f:Fc,tH f pl [a,b,c]=true->jc 8 a f.bj ns->mv3 8 a b c∈ns:=fun f hf hs=>by
  unfold tH at hf;simp only[cE,dk,ij] at hf;obtain⟨h1,_,h3⟩:=hf;have ex:∀e∈[a,b,c],∃d∈f.bj,d/2=e:=fun e he=>by have h4:=h3 e he;unfold sP at h4;obtain⟨d,hd,qB⟩:=vw.1 (show 0<f.bj.countP fun d=>d/2==e by omega);exact⟨d,hd,dk.1 qB⟩
  exact hs.2 rfl b c ef GL h1 (ex a af) (ex b af) (ex c af)
 unfold lW at h;rw[oY] at h;rcases h with h|h
 .exact key _ h (hs 0 ae)
 exact key _ h (hs 1 ae)
theorem ahF(g:bK F L){X:List Let}(hk:k5 m.k)(h:ju F L m=some X)(hc:CP F L m.k ns):m∈ns:=by
 obtain⟨k,a,b,c,l,o,sg⟩:=m;obtain⟨_,hA,P,hP,_⟩:=I4 g hk h;simp only at hA hP hc;have hk:k5 k:=hk;unfold k5 at hk;rcases hk with rfl|rfl|rfl|rfl|rfl
 .obtain⟨av,ha,rfl,rfl,rfl,rfl,rfl,rfl⟩:=(tE (.inl rfl)).1 hA;exact hc.1 (.inl rfl) av ha
 .obtain⟨av,bv,ef,hb,rfl,rfl,rfl,rfl,rfl,rfl⟩:=(BY (.inl rfl)).1 hA;have hP:yK F L av bv=some P:=hP;unfold yK at hP;split at hP
  case isFalse=>cases hP
  rename_i ht;simp only[cE] at ht;exact XU ef ht.2.2.2.2 (hc.2 (.inl rfl) av aa) ae
 .obtain⟨av,ha,rfl,rfl,rfl,rfl,rfl,rfl⟩:=(tE (.inr rfl)).1 hA;exact hc.1 (.inr rfl) av ha
 .obtain⟨av,bv,ef,hb,rfl,rfl,rfl,rfl,rfl,rfl⟩:=(BY (.inr rfl)).1 hA;have hP:ti F L av bv=some P:=hP;unfold ti at hP;split at hP
  case isFalse=>cases hP
  rename_i ht;simp only[cE] at ht;exact XU ef ht.2.2.2.2.2 (hc.2 (.inr (.inl rfl)) av aa) ae
 obtain⟨av,bv,cv,ef,GL,dM,rfl,rfl,rfl,rfl,rfl,rfl⟩:=agP.1 hA;have hP:wT F L av bv cv=some P:=hP;unfold wT at hP;split at hP
 case isFalse=>cases hP
 rename_i ht;unfold Ip at ht;simp only[cE] at ht;exact aia ef GL ht.2.2.2.2.2 (hc.2 (.inr (.inr rfl)) av aa)
theorem agH(g:bK F L){X:List Let}(hk:k5 m.k)(h:ju F L m=some X):mB F L m.k m.a m.b m.c m.l m.o m.s=kA F X:=by
 obtain⟨_,hA,P,hP,rfl⟩:=I4 g hk h;have hg:kx m.k=(0,0):=by unfold k5 at hk;rcases hk with h|h|h|h|h<;>rw[h]<;>rfl
 have k1:=g.len;have k2:=g.cr;unfold mB;rw[aE hA,hP];exact aD (by rw[hg];dsimp only;omega)
theorem af9(g:bK F L)(kM:want.length<=10)(hw:∀k∈want,te k)(hs:aJ S 66 [cY F L,.one (.p (.sl (iP want)))] (.tup [.one (aO hY 7 (mP ms)),.one (.p (.int .i64 0))])){X:List Let}(hm:m.k∈want)(h:ju F L m=some X):m∈ms:=by obtain⟨Lf,⟨_,_,hc,_⟩,hs'⟩:=WU g want kM hw;rw[akc (aJ.uO hs hs')];have hk:k5 m.k:=hw _ hm;obtain⟨ns,h1,h2⟩:=hc m.k hm (by unfold k5 at hk;omega) (by unfold k5 at hk;omega);exact h2 m (ahF g hk h h1) ⟨X,agH g hk h⟩
theorem ani(h:dT (F:Int) L=0)(hw:∀k∈want,te k)(hm:ui F L want m):m.k∈want/\bK F L/\ ∃X,ju F L m=some X/\dT (F:Int) X=0:=by
 obtain⟨h1,⟨a,ha,_⟩,X,hX⟩:=hm;have aM:L≠[]:=fun e=>by rw[e] at ha;simp at ha
 obtain⟨G,e,g⟩:=Ce h aM;have:F=G:=aa;subst this;have h2:=W8 aM hX;exact⟨h1,g,X,h2,(I4 g (hw _ h1) h2).1⟩
end
theorem acg{aj:aA}{s:Nat}{x y:PV}{l:Bool}:land aj [] s ((RV.agg [.p x,.p y]).eG l)=some (.agg [.p x,.p y],[]):=by cases l<;>rfl
theorem ah8(dM:MC):aJ S 20 [cY F []] (.agg [.p (.int .i64 F),.p (.sl [])]):=by refine bc c20 ?_;simp only[go_sem,i20,s40,cK dM amg];rfl
theorem ah9(aM:ls≠[])(hl:ls.length<=1000000):aJ S 20 [cY F ls] (.agg [.p (.int .i64 F),aO fU 6 (cM ls)]):=by have pcl:=ahW aM hl;have lo:S.lone 1280064128=false:=ah;refine bc c20 ?_;simp only[go_sem,i20,s40];refine pI pcl lo (.inl rfl) fun cc nh gc r4=>?_;have b0:=r4 1280000000 ae;have b1:=r4 1280000064 ae;simp only[go_sem] at b0 b1;simp only[go_sem,b0,b1];exact GG (gc.of_eq (by simp only[aS,Nat.reduceEqDiff,if_false]))
theorem amc{aj:aA}{rd:List Nat}{id s g z:Nat}{es y:List (List PV)}{x w:PV}{l:Bool}(hr:rd=[]\/rd=[id])(hb:aj id=(g,some (.arr ty z es))):∃u,land aj rd s ((RV.tup [.agg [.p x,.p (.sl y)],.one (.p w)]).eG l)=some (.tup [.agg [.p x,.p (.sl y)],.one (.p w)],u)/\ ∀i,i≠id->app u aj i=aj i:=by
 have hp:(RV.tup [.agg [.p x,.p (.sl y)],.one (.p w)]).eG l=.tup [.agg [.p x,.p (.sl y)],.one (.p w)]:=by cases l<;>rfl
 rw[hp];unfold land;rcases hr with rfl|rfl
 .exact⟨[],by rw[aE (.inl rfl)];rfl,fun _ _=>rfl⟩
 by_cases ha:(RV.tup [.agg [.p x,.p (.sl y)],.one (.p w)]).alone=true
 .exact⟨[],by rw[aE (.inr ha)];rfl,fun _ _=>rfl⟩
 refine⟨[(id,(g,some (.l7 ty z es)))],?_,fun i hi=>?_⟩
 .rw[aD (by rintro (h|h);cases h;exact ha h)];have:qx aj [id]=some [(id,(g,some (.l7 ty z es)))]:=by simp[qx,rU,uR,hb]
  rw[this];rfl
 simp[app,aS,hi]
def rdR(F:Nat)(ls:List Let)(ms:List aU)(M:List Let)(r:RV):Prop:=(ms=[]/\M=ls/\r=.tup [.agg [.p (.int .i64 F),.p (hU ls)],.one (.p .nils),.one (.p (.int .i64 0))])\/r=.tup [.agg [.p (.int .i64 F),aO fU 6 (cM M)],.one (aO hY 7 (mP ms)),.one (.p (.int .i64 0))]
theorem amd{aj:aA}{s:Nat}{x y w:PV}{l:Bool}:land aj [] s ((RV.tup [.agg [.p x,.p y],.one (.p w)]).eG l)=some (.tup [.agg [.p x,.p y],.one (.p w)],[]):=by cases l<;>rfl
theorem af7(dM:MC)(GO:dT (F:Int) ls=0)(hlen:ls.length<=400):∃r,(∃ms M,yG F ls ms M/\Lk F M/\rdR F ls ms M r)/\aJ S 5 [cY F ls] r:=by
 have pc:=XD F ls aa;rw[GO] at pc;obtain⟨r0,⟨ms,M,hR,hN,hr⟩,pr⟩:=aoS GO hlen;have nI:S.lone 320256064=false:=ah;have wK:S.lone 320256128=false:=ah;by_cases aM:ls=[]
 .subst aM;have pcp:aJ S 20 [.agg [.p (.int .i64 F),.p (.sl [])]] (.agg [.p (.int .i64 F),.p (.sl [])]):=ah8 dM (F:=F);have pc':aJ S 18 [.agg [.p (.int .i64 F),.p (.sl [])]] (ri 0):=pc;have pr':aJ S 19 [.agg [.p (.int .i64 F),.p (.sl [])]] r0:=pr;refine BT rfl c5 (gj rfl) ?_;rcases hr with ⟨rfl,rfl,rfl⟩|rfl
  .simp only[go_sem,i5,s18,dJ pc',s20,cK pcp acg,s19,cK pr' amd];exact⟨_,⟨[],[],hR,hN,.inl ⟨rfl,rfl,rfl⟩⟩,rfl⟩
  simp only[go_sem,i5,s18,dJ pc',s20,cK pcp acg,s19];refine aaf pr' wK rfl (zN _) (Vu _) fun c e bt gc ge hb=>?_;have q1:=hb 320000064 ae ae;simp only[go_sem] at q1;simp only[go_sem,q1];exact⟨_,⟨ms,M,hR,hN,.inr rfl⟩,adw ae (gc.of_eq (by simp only[aS,Nat.reduceEqDiff,if_false])) (ge.of_eq (by simp only[aS,Nat.reduceEqDiff,if_false]))⟩
 have pcp:=ah9 (F:=F) aM aa;refine BT rfl c5 (gj rfl) ?_;simp only[go_sem,i5,s18,dJ pc,s20];refine Nk pcp nI rfl (zN _) fun cc bt gc hb=>?_;have q1:=hb 320000064 ae;simp only[go_sem] at q1;obtain⟨rd,lI,oF⟩:=gc.Ih;rcases gc with ⟨h,_⟩|⟨_,gg,e2,hC⟩
 .exact absurd (afJ.1 h) aM
 rcases hr with ⟨rfl,rfl,rfl⟩|rfl
 .obtain⟨u,hu,ha⟩:=amc (s:=320256128) (x:=.int .i64 F) (w:=.nils) (y:=cM M) (l:=S.lone 320256128) oF hC;have b1:=ha 320000064 ae;rw[q1] at b1;simp only[go_sem,lI,s19];refine(cK pr hu).2 ?_;simp only[go_sem,b1];exact⟨_,⟨[],_,hR,hN,.inl ⟨rfl,rfl,rfl⟩⟩,rfl⟩
 simp only[go_sem,lI,s19];refine aaf pr wK rfl (zN _) (Vu _) fun c e bd oh ge2 aZ=>?_;have b1:=aZ 320000064 ae ae;rw[q1] at b1;simp only[go_sem,b1];exact⟨_,⟨ms,M,hR,hN,.inr rfl⟩,adw ae (oh.of_eq (by simp only[aS,Nat.reduceEqDiff,if_false])) (ge2.of_eq (by simp only[aS,Nat.reduceEqDiff,if_false]))⟩
theorem af6(f:Int)(ls:List Let)(hl:ls.length<=1000000)(h:dT f ls≠0):aJ S 5 [cY f ls] (.tup [.agg [.p (.int .i64 0),.p .nils],.one (.p .nils),.one (.p (.int .i64 (dT f ls)))]):=by
 have pc:=XD f ls hl;have h0':(dT f ls==0)=false:=by simpa using h
 generalize dT f ls=e at*;refine bc c5 ?_;simp only[go_sem,i5,s18,dJ pc,bne,h0'];rfl
end
end Go.Abs
