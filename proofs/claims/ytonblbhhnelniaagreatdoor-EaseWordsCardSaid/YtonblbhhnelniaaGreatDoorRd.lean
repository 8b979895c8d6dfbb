/-
  The moves that are tried and those that are possible; the reducing search.
-/
import Derived.Test.YtonblbhhnelniaaGreatDoorUe
import Derived.Test.YtonblbhhnelniaaGreatDoorRa
set_option linter.all false
set_option maxRecDepth 100000
set_option maxHeartbeats 16000000
namespace Go.Abs
section
variable{F:Nat}
def GB(q:Pc->Bool):Prop:=∀p p':Pc,p.l.kind=p'.l.kind->q p=q p'
theorem VY{q:Pc->Bool}(l:List Pc)(drop:Nat->Pc->Bool):(k9 l drop).countP q<=l.countP q:=by
 have key:∀k,k<=l.length->(ny l drop k).countP q<=(l.take k).countP q:=by
  intro k
  induction k with
  |zero=>intro _;exact aX _
  |succ k ih=>
   intro hk;obtain⟨p,hp⟩:=aK (ls:=l) (k:=k) aa;have:=ih aa;rw[kn,hp,vE];cases hd:drop k p
   .rw[AZ hp hd,vE];exact Nat.add_le_add_right this _
   rw[uD hp hd];omega
 have:=key l.length (aX _);rwa[jh] at this
theorem Wi{q:Pc->Bool}(hq:GB q){f:Pc->Pc}(hf:∀p,(f p).l.kind=p.l.kind)(l:List Pc):(l.map f).countP q=l.countP q:=by rw[Du];exact List.countP_congr fun p _=>by rw[Function.comp_apply,hq _ _ (hf p)]
theorem ase(g ab b:Int)(p:Pc):(rA g ab b p).l.kind=p.l.kind:=by unfold rA;split<;>rfl
theorem aem(ids:List Int)(p:Pc):(pI ids p).l.kind=p.l.kind:=by unfold pI;split<;>rfl
section
variable {F:Nat} {ls:List Let}
theorem agS(g:dr F ls){q:Pc->Bool}:∀(es:List Nat) (l:List Pc),l.length=ls.length->(∀e∈es,e<ls.length)->(iN ls l es).countP q=l.countP q:=by
 intro es
 induction es with
 |nil=>intro l _ _;rfl
 |cons e es ih=>intro l hl he;show(iN ls (fP ls l e) es).countP q=_;rw[ih _ (by rw[Dk,hl]) fun e h=>he e (by simp[h]),JW hl (he e af) (GI g (he e af))]
theorem agi{q:Pc->Bool}(hq:GB q)(l:List Pc)(i:Nat)(r:Int):(fV l i r).countP q=l.countP q:=by
 by_cases h:i<l.length
 .obtain⟨p,hp⟩:=aK h;exact WZ hp fun p=>hq _ _ rfl
 unfold fV;rw[Rs aa]
def k5 (k:Int):Prop:=k=1\/k=3\/k=4\/k=6\/k=8
theorem Qb(g:dr F ls){q:Pc->Bool}(hq:GB q){k:Int}(hk:k5 k){a b c:Nat}{l o:Bool}{sg:Int}(ha:a<ls.length)(hb:b<ls.length\/(k≠3/\k≠8))(hc:c<ls.length\/k≠8){L:List Pc}(h:qZ F ls k a b c l o sg=some L):L.countP q<=(pieces ls).countP q:=by
 have bK:=fi ls;rcases hk with rfl|rfl|rfl|rfl|rfl
 .have h:xj ls a=some L:=h;unfold xj at h;simp only at h;split at h
  .cases h;show(List.map _ _).countP q<=_;rw[Wi hq (ase _ _ _)];exact VY (q:=q) (pieces ls) _
  cases h
 .have h:xn F ls a b=some L:=h;unfold xn at h;split at h
  .cases h;rw[agS g _ _ (by rw[yy,yy,bK]) (by
    intro e he;simp only[cM,iO,or_false] at he;rcases he with rfl|rfl
    .exact ha
    rcases hb with hb|hb
    .exact hb
    exact absurd rfl hb.1),agi hq,agi hq]
   exact aX _
  cases h
 .have h:yg ls a=some L:=h;unfold yg at h;simp only at h;split at h
  .cases h;show(List.map _ _).countP q<=_;rw[Wi hq (aem _)];exact VY (q:=q) (pieces ls) _
  cases h
 .have h:yt F ls a b=some L:=h;unfold yt at h;split at h
  .cases h;show(List.map _ _).countP q<=_;rw[Wi hq (aem _)];exact VY (q:=q) (pieces ls) _
  cases h
 have h:vz F ls a b c=some L:=h;unfold vz at h;split at h
 .cases h;rw[agS g _ _ bK (by
   intro e he;simp only[cM,iO,or_false] at he;rcases he with rfl|rfl|rfl
   .exact ha
   .rcases hb with hb|hb
    .exact hb
    exact absurd rfl hb.2
   rcases hc with hc|hc
   .exact hc
   exact absurd rfl hc)]
  exact aX _
 cases h
theorem do5(g:dr F ls){k:Int}(hk:k5 k)(a b c:Int)(l o:Bool)(sg:Int):aI S 75 [.one (.p (eB F ls)),lL k a b c l o sg] (uR F ls k a b c l o sg):=by
 have pa:=air (F:=F) (ls:=ls) (a:=a) (b:=b) (c:=c) (l:=l) (o:=o) (sg:=sg) k;have hlen:=g.len;have eV:=g.cr;unfold uR;cases hA:bt F ls k a b c l o sg with
 |false=>rw[hA] at pa;exact ako pa
 |true=>
  rw[hA] at pa;rw[if_pos rfl];have hL:∀L,qZ F ls k a.toNat b.toNat c.toNat l o sg=some L->L.length<=1000000:=fun L h=>by have:=apD h;omega
  have ne:=g.ne;have jl:¬ls.length=0:=by have:=gV.2 ne;omega
  unfold bt at hA;by_cases h1:k=1
  .subst h1;simp only[Int.reduceEq,if_true,if_false,or_false,or_self] at hA;simp only[cH,kV,beq_iff_eq] at hA;obtain⟨rfl,rfl,rfl,hx,rfl,rfl⟩:=hA;obtain⟨av,rfl,ha⟩:=k8 hx;simp only[uK] at hL ⊢;exact KX hlen eV (k:=1) rfl ae ah pa (aiJ g ha) hL
  by_cases h3:k=3
  .subst h3;simp only[Int.reduceEq,if_true,if_false,or_false,or_self] at hA;simp only[cH,kV,beq_iff_eq,decide_eq_true_eq] at hA;obtain⟨rfl,rfl,rfl,hx,rfl,hy,aw⟩:=hA;obtain⟨av,rfl,ha⟩:=k8 hx;obtain⟨bv,rfl,hb⟩:=k8 hy;simp only[uK] at hL ⊢;exact KX hlen eV (k:=3) rfl ae ah pa (aiM g ha hb) hL
  by_cases h4:k=4
  .subst h4;simp only[Int.reduceEq,if_true,if_false,or_false,or_true,or_self] at hA;simp only[cH,kV,beq_iff_eq] at hA;obtain⟨rfl,rfl,rfl,hx,rfl,rfl⟩:=hA;obtain⟨av,rfl,ha⟩:=k8 hx;simp only[uK] at hL ⊢;exact KX hlen eV (k:=4) rfl ae ah pa (aoW g ha) hL
  by_cases h6:k=6
  .subst h6;simp only[Int.reduceEq,if_true,if_false,or_true,or_self] at hA;simp only[cH,kV,beq_iff_eq,decide_eq_true_eq] at hA;obtain⟨rfl,rfl,rfl,hx,rfl,hy,aw⟩:=hA;obtain⟨av,rfl,ha⟩:=k8 hx;obtain⟨bv,rfl,hb⟩:=k8 hy;simp only[uK] at hL ⊢;exact KX hlen eV (k:=6) rfl ae ah pa (ap6 g ha hb) hL
  by_cases h8:k=8
  .subst h8;simp only[Int.reduceEq,if_true,if_false,or_self] at hA;simp only[cH,kV,beq_iff_eq,decide_eq_true_eq] at hA;obtain⟨rfl,rfl,rfl,hx,hy,hz,_,_⟩:=hA;obtain⟨av,rfl,ha⟩:=k8 hx;obtain⟨bv,rfl,hb⟩:=k8 hy;obtain⟨cv,rfl,hc⟩:=k8 hz;simp only[uK] at hL ⊢;exact KX hlen eV (k:=8) rfl ae ah pa (at5 g ha hb hc) hL
  exact absurd hk (by rintro (h|h|h|h|h)<;>contradiction)
theorem Ye(g:dr F ls){k:Int}(hk:k5 k)(a b c:Int)(l o:Bool)(sg:Int):aI S 46 [eY F ls,lL k a b c l o sg] (uR F ls k a b c l o sg):=aim (ae6 g) (do5 g hk a b c l o sg) aii
theorem Oe(g:dr F ls){k:Int}(hk:k5 k)(a b c:Int)(l o:Bool)(sg:Int):(∃e,e≠0/\uR F ls k a b c l o sg=sX e)\/ ∃M,uR F ls k a b c l o sg=pN F M/\cN F M=0/\bt F ls k a b c l o sg=true/\ ∃L,qZ F ls k a.toNat b.toNat c.toNat l o sg=some L/\M=mw L:=by
 unfold uR;cases hA:bt F ls k a b c l o sg
 .exact .inl ⟨2,ae,rfl⟩
 rw[if_pos rfl];cases hm:qZ F ls k a.toNat b.toNat c.toNat l o sg with
 |none=>exact .inl ⟨4,ae,rfl⟩
 |some L=>
  unfold y9;by_cases qj:(400:Int)<(ls.length:Int)+(mZ k).1\/(100:Int)<((ay Let.aC ls/2:Nat):Int)+(mZ k).2
  .exact .inl ⟨7,ae,if_pos qj⟩
  refine .inr ⟨mw L,if_neg qj,?_,rfl,L,rfl,rfl⟩;have hlen:=g.len;have eV:=g.cr;have hF:=g.fing;have ne:=g.ne;have jl:¬ls.length=0:=by have:=gV.2 ne;omega
  have dL:ay Let.aC ls%2=0:=by have:=g.cz.ev;rwa[kU] at this
  have bK:=fi ls;have kT:GB (fun _=>true):=fun _ _ _=>rfl;have kC:GB (fun p=>p.l.aC):=fun p p' h=>by show(p.l.kind==2)=(p'.l.kind==2);rw[h]
  have pC:(pieces ls).countP (fun p=>p.l.aC)=ay Let.aC ls:=by rw[<- Qs (ls:=ls) Let.aC];show _=List.countP _ (List.map _ _);rw[Du];rfl
  have lC:ay Let.aC (L.map Pc.l)=L.countP (fun p=>p.l.aC):=by show List.countP _ (List.map _ _)=_;rw[Du];rfl
  have tT:∀l:List Pc,l.countP (fun _=>true)=l.length:=fun l=>af;have fin:L=[]\/Cert F L->(∀ {av bv cv:Nat},a=(av:Int)->b=(bv:Int)->c=(cv:Int)->av<ls.length->(bv<ls.length\/(k≠3/\k≠8))->(cv<ls.length\/k≠8)->cN F (mw L)=0):=by
   intro hc av bv cv e1 e2 e3 ha hb tH;subst e1 e2 e3;simp only[uK] at hm;have c1:=Qb g kT hk ha hb tH hm;have c2:=Qb g kC hk ha hb tH hm;rw[tT,tT,bK] at c1;rw[pC] at c2;rcases hc with rfl|hc
   .unfold cN;have:mw []=[]:=rfl;rw[this];rw[if_neg (by simp[ay]),if_neg aa,if_pos rfl]
   exact hc.check aa (by rw[lC];omega) hF
  unfold bt at hA;by_cases h1:k=1
  .subst h1;simp only[Int.reduceEq,if_true,if_false,or_false,or_self] at hA;simp only[cH,kV,beq_iff_eq] at hA;obtain⟨rfl,rfl,rfl,hx,rfl,rfl⟩:=hA;obtain⟨av,rfl,ha⟩:=k8 hx;exact fin (YJ g ha (by simpa [qZ] using hm)) rfl (bv:=0) rfl (cv:=0) rfl ha (.inr ⟨ae,ae⟩) (.inr ae)
  by_cases h3:k=3
  .subst h3;simp only[Int.reduceEq,if_true,if_false,or_false,or_self] at hA;simp only[cH,kV,beq_iff_eq,decide_eq_true_eq] at hA;obtain⟨rfl,rfl,rfl,hx,rfl,hy,aw⟩:=hA;obtain⟨av,rfl,ha⟩:=k8 hx;obtain⟨bv,rfl,hb⟩:=k8 hy;exact fin (.inr (YK g ha hb aa (by simpa [qZ] using hm))) rfl rfl (cv:=0) rfl ha (.inl hb) (.inr ae)
  by_cases h4:k=4
  .subst h4;simp only[Int.reduceEq,if_true,if_false,or_false,or_true,or_self] at hA;simp only[cH,kV,beq_iff_eq] at hA;obtain⟨rfl,rfl,rfl,hx,rfl,rfl⟩:=hA;obtain⟨av,rfl,ha⟩:=k8 hx;exact fin (.inr (YM g ha (by simpa [qZ] using hm))) rfl (bv:=0) rfl (cv:=0) rfl ha (.inr ⟨ae,ae⟩) (.inr ae)
  by_cases h6:k=6
  .subst h6;simp only[Int.reduceEq,if_true,if_false,or_true,or_self] at hA;simp only[cH,kV,beq_iff_eq,decide_eq_true_eq] at hA;obtain⟨rfl,rfl,rfl,hx,rfl,hy,aw⟩:=hA;obtain⟨av,rfl,ha⟩:=k8 hx;obtain⟨bv,rfl,hb⟩:=k8 hy;exact fin (.inr (YN g ha hb (by simpa [qZ] using hm))) rfl rfl (cv:=0) rfl ha (.inr ⟨ae,ae⟩) (.inr ae)
  by_cases h8:k=8
  .subst h8;simp only[Int.reduceEq,if_true,if_false,or_self] at hA;simp only[cH,kV,beq_iff_eq,decide_eq_true_eq] at hA;obtain⟨rfl,rfl,rfl,hx,hy,hz,_,_⟩:=hA;obtain⟨av,rfl,ha⟩:=k8 hx;obtain⟨bv,rfl,hb⟩:=k8 hy;obtain⟨cv,rfl,hc⟩:=k8 hz;exact fin (.inr (YO g ha hb hc (by simpa [qZ] using hm))) rfl rfl rfl ha (.inl hb) (.inl hc)
  exact absurd hk (by rintro (h|h|h|h|h)<;>contradiction)
end
def A7(x y:a7):Bool:=decide (x.b<y.b)||(decide (x.b=y.b)&&decide (x.c<y.c))
def Di(m:a7):Prop:=(0<=m.b/\m.b<=1000000)/\0<=m.c/\m.c<=1000000
theorem Xi:Swo A7:=⟨fun a b h=>by unfold A7 at*;simp at*;omega,fun a b c h k=>by unfold A7 at*;simp at*;omega⟩
theorem ajI(x y:a7)(hx:Di x)(hy:Di y):∃n:Int,aI S 151 [GG x,GG y] (ri n)/\(decide (n<0)=A7 x y):=by
 obtain⟨⟨x1,x2⟩,x3,x4⟩:=hx;obtain⟨⟨y1,y2⟩,y3,y4⟩:=hy;have w1:IntKind.i64.wrap (x.b-y.b)=x.b-y.b:=vC aa aa;have w2:IntKind.i64.wrap (x.c-y.c)=x.c-y.c:=vC aa aa;cases hb:(x.b==y.b) with
 |true=>
  have e:x.b=y.b:=eq_of_beq hb;refine⟨x.c-y.c,?_,?_⟩
  .refine aY c151 ?_;simp only[go_sem,i151,bne,hb,w2]
  unfold A7;rw[Bool.eq_iff_iff];simp;omega
 |false=>
  have e:¬x.b=y.b:=by simpa using hb
  refine⟨x.b-y.b,?_,?_⟩
  .refine aY c151 ?_;simp only[go_sem,i151,bne,hb,w1]
  unfold A7;rw[Bool.eq_iff_iff];simp;omega
abbrev mP(o:List a7):List (List PV):=o.map a7.ps
theorem aeo(o:List a7)(k:Nat)(v:a7):(mP o).set k v.ps=mP (o.set k v):=by simp[List.map_set]
theorem nY(o:List a7):(mP o).length=o.length:=cF _
def JP(id g ty:Nat)(es:List a7)(aj:aq)(v:V)(ao:aq):Prop:=v=.tup []/\(∃ws:List a7,ao id=(g,some (.arr ty 7 (mP ws)))/\ws.Perm es/\vM A7 ws 0 ws.length)/\Kept (· =id) aj ao
abbrev DK:V:=.one (.p (.fn 151 [] []))
theorem anW{al:Al}{aj:aq}{id g ty:Nat}{es:List a7}(o:al.ok id=true)(hl:es.length<=1000000)(Ez:∀m∈es,Di m)(hC:aj id=(g,some (.arr ty 7 (mP es)))):
  ∃v ao,iJ S 191 [.one (.hsl id g 7 0 es.length),vi 0,vi es.length,DK] al aj v ao/\JP id g ty es aj v ao:=by
 have scm:S.shared 151=false:=ah;refine mr c191 (gY rfl) ?_;have w0:IntKind.i64.wrap (0+1)=((0+1:Nat):Int):=ae;simp only[go_sem,i191];refine cV (fun k ak ao=>ak 0=.one (.hsl id g 7 0 es.length)/\ak 1=vi 0/\ak 2=vi es.length/\ak 3=DK/\ak 8=vi ((k+1:Nat):Int)/\ ∃zs:List a7,ao id=(g,some (.arr ty 7 (mP zs)))/\zs.Perm es/\vM A7 zs 0 (k+1)/\Kept (· =id) aj ao) 0 es.length (bd _) ?_ ?_
 .simp only[go_sem];exact⟨rfl,es,hC,.refl _,fun p q x y _ h1 h2=>aa,Kept.refl _ _⟩
 rintro k ak bG hk ⟨h0,h1,h2,h3,h6,zs,hZ,hp,hs,dd⟩
 have l8:=hp.length_eq;by_cases aw:k+1<es.length
 .have aL:((k+1:Nat):Int)<(es.length:Int):=aa;obtain⟨x,hx⟩:=aK (ls:=zs) (k:=k+1) aa;have sx:Di x:=Ez x (hp.mem_iff.1 (aU hx));simp only[go_sem,i191_l3,h2,h6,aL];refine cV (fun q ak ao=>ak 0=.one (.hsl id g 7 0 es.length)/\ak 1=vi 0/\ak 2=vi es.length/\ak 3=DK/\ak 8=vi ((k+1:Nat):Int)/\ak 9=vi ((k+1-q:Nat):Int)/\ ∃ws:List a7,ao id=(g,some (.arr ty 7 (mP ws)))/\yI A7 zs ws x 0 (k+1) (k+1-q)/\Kept (· =id) aj ao) 0 (k+1) (bd _) ?_ ?_
  .simp only[go_sem,h0,h1,h2,h3,h6];exact⟨zs,hZ,yI.start (bd _) hx hs,dd⟩
  rintro q cZ aZ hq ⟨k0,k1,k2,k3,k6,k7,ws,hW,hI,Gf⟩
  have lI:ws.length=es.length:=hI.perm.length_eq.trans l8;have wk:IntKind.i64.wrap (((k+1:Nat):Int)+1)=((k+1+1:Nat):Int):=cK (n:=k+1) aa;by_cases hj0:k+1-q=0
  .have e7:¬((0:Int)<((k+1-q:Nat):Int)):=aa;simp only[go_sem,i191_l1,i191_r2,k0,k1,k2,k3,k6,k7,e7,wk];refine⟨aH,aa,ws,hW,hI.perm.trans hp,hI.stop Xi (.inl hj0),Gf⟩
  obtain⟨j,hj⟩:∃j,k+1-q=j+1:=⟨k-q,aa⟩;have e7:((0:Int)<((j+1:Nat):Int)):=aa;obtain⟨y,hy⟩:=aK (ls:=ws) (k:=j) aa;have sy:Di y:=Ez y ((hI.perm.trans hp).mem_iff.1 (aU hy));rw[hj] at hI k7;have wj:IntKind.i64.wrap (((j+1:Nat):Int)-1)=(j:Int):=by rw[yE aa];omega
  have AX:=Nd hI.at';have CP:=Nd hy;have j1:j+1<es.length:=by have:=hI.le;omega
  have j2:j<es.length:=aa;obtain⟨n,pl,hn⟩:=ajI x y sx sy;cases hU:A7 x y with
  |false=>
   rw[hU] at hn;have Ep:¬(n<0):=by simpa using hn
   simp only[go_sem,i191_l1,i191_r2,k0,k1,k2,k3,k6,k7,e7,wk,wj,hW,AX,CP,a7.ps,j1,j2,o,scm,Ot pl,Ep];refine⟨aH,aa,ws,rfl,hI.perm.trans hp,hI.stop Xi (.inr ⟨y,aa,hy,hU⟩),Gf⟩
  |true=>
   rw[hU] at hn;have Ep:n<0:=by simpa using hn
   have we:=hI.step Xi (bd _) hy hU;have hjj:¬(j+1=j):=aa;have l1:j+1<ws.length:=aa;have l2:j<ws.length:=aa;simp only[go_sem,i191_l1,i191_r2,k0,k1,k2,k3,k6,k7,e7,wj,hW,AX,CP,a7.ps,j1,j2,l1,hjj,o,scm,Ot pl,Ep,oI,nY];have CK:k+1-(q+1)=j:=aa;refine⟨aH,aH,aa,by rw[CK],(ws.set (j+1) y).set j x,by rw[<- aeo,<- aeo];rfl,by rw[CK];exact we,(Gf.dB rfl _).dB rfl _⟩
 have aL:¬(((k+1:Nat):Int)<(es.length:Int)):=aa;simp only[go_sem,i191_l3,h2,h6,aL];exact⟨rfl,⟨zs,hZ,hp,hs.mono (.inl aa)⟩,dd⟩
theorem aqj{al:Al}{aj:aq}{id g ty:Nat}{es:List a7}(o:al.ok id=true)(f1:al.fs.contains 191=true)(hl:es.length<=12)(Ez:∀m∈es,Di m)(hC:aj id=(g,some (.arr ty 7 (mP es))))(lim:Int):
  ∃v ao,iJ S 173 [.one (.hsl id g 7 0 es.length),vi 0,vi es.length,vi lim,DK] al aj v ao/\JP id g ty es aj v ao:=by
 refine mr c173 (gY rfl) ?_;have w0:IntKind.i64.wrap ((es.length:Int)-0)=(es.length:Int):=by rw[Int.sub_zero];exact vC aa aa
 have gA:(es.length:Int)<=12:=aa;simp only[go_sem,i173];refine sA ?_;simp only[go_sem,i173_l1,w0,gA,s191];refine Ao hC (by rfl) (.inr ⟨o,by rw[show S.sites 191=[191] by kernel_rfl];simp only[lk,oG,f1,wY]⟩) (P:=JP id g ty es aj) (fun qH h1 _=>anW h1 aa Ez hC) fun v ao hP=>?_;obtain⟨rfl,h2⟩:=hP;simp only[go_sem];exact⟨rfl,h2⟩
theorem atj{al:Al}{aj:aq}{id g ty:Nat}{es:List a7}(o:al.ok id=true)(f1:(S.sites 173).all al.fs.contains=true)(hl:es.length<=12)(Ez:∀m∈es,Di m)(hC:aj id=(g,some (.arr ty 7 (mP es)))):
  ∃v ao,iJ S 150 [.one (.hsl id g 7 0 es.length),DK] al aj v ao/\JP id g ty es aj v ao:=by
 obtain⟨k,pb⟩:=Sl es.length aa;have wu:IntKind.u64.wrap (es.length:Int)=(es.length:Int):=by
  have e:IntKind.u64.wrap (es.length:Int)=(es.length:Int)%18446744073709551616:=by unfold IntKind.wrap;rfl
  rw[e];omega
 refine mr c150 (gY rfl) ?_;have sbl:S.shared 148=false:=ah;simp only[go_sem,i150,wu,sbl,FX pb,s173];refine Ao hC (by rfl) (.inr ⟨o,f1⟩) (P:=JP id g ty es aj) (fun qH h1 h2=>aqj h1 (by rw[h2];kernel_rfl) hl Ez hC k) fun v ao hP=>?_;obtain⟨rfl,h2⟩:=hP;simp only[go_sem];exact⟨rfl,h2⟩
theorem anP(o:List Int)(x:Int)(hl:o.length<=1000000):aI S 120 [.one (.p (.sl (iP o))),vi x] (ri (match (List.range o.length).find? (nV o x) with|some k=>(k:Int)|none=> -1)):=by
 refine aY c120 ?_;simp only[go_sem,i120];refine cV (fun k ak aj=>ak 0=.one (.p (.sl (iP o)))/\ak 1=vi x/\ak 7=vi o.length/\ak 8=vi k/\ ∀j,j<k->nV o x j=false) 0 o.length (bd _) ?_ ?_
 .simp only[go_sem];exact⟨rfl,fun j hj=>absurd hj (qE j)⟩
 rintro k ak aj hk ⟨h0,h1,h7,h8,hn⟩
 by_cases aw:k<o.length
 .have aL:((k:Int)<(o.length:Int)):=aa;obtain⟨y,hy⟩:=aK aw;have fJ:=mK hy;have w1:=cK (n:=k) aa;have nQ:nV o x k=(y==x):=by simp[nV,hy]
  cases hb:(y==x) with
  |true=>
   have xJ:(x==y)=true:=by have:=beq_iff_eq.1 hb;simp[this]
   rw[hb] at nQ;have hf:=DT (p:=nV o x) aw hn nQ;simp only[go_sem,i120_l1,h0,h1,h7,h8,aL,fJ,xJ,hf]
  |false=>
   have xJ:(x==y)=false:=by
    have:¬y=x:=by simpa using hb
    simp;exact fun h=>this h.symm
   rw[hb] at nQ;have Ep:∀j,j<k+1->nV o x j=false:=fun j hj=>by
    rcases pV.1 hj with h|rfl
    .exact hn j h
    exact nQ
   simp only[go_sem,i120_l1,h0,h1,h7,h8,aw,aL,fJ,xJ,w1];exact Ep
 have:k=o.length:=aa;subst this;have hf:=Lg (p:=nV o x) hn;simp only[go_sem,i120_l1,i120_r2,h7,h8,eK,hf]
theorem Zm(o:List Int)(x:Int)(hl:o.length<=1000000):aI S 100 [.one (.p (.sl (iP o))),vi x] (rb (o.contains x)):=by
 have pi:=anP o x hl;refine aY c100 ?_;cases hm:o.contains x with
 |true=>
  have wC:x∈o:=by simpa using hm
  obtain⟨k,hk⟩:=jD wC;have dO:=(aS.1 hk).1;cases hf:(List.range o.length).find? (nV o x) with
  |none=>have:=Hh.1 hf k (fm.2 dO);simp[nV,hk] at this
  |some j=>rw[hf] at pi;have nN:(0:Int)<=(j:Int):=aa;simp only[go_sem,i100,s120,eH pi,nN]
 |false=>
  have wC:x∉o:=by simpa using hm
  cases hf:(List.range o.length).find? (nV o x) with
  |some j=>
   have h1:=Kr hf;unfold nV at h1;cases ho:o[j]? with
   |none=>rw[ho] at h1;cases h1
   |some y=>
    rw[ho] at h1;have:y=x:=by simpa using h1
    subst this;exact absurd (aU ho) wC
  |none=>rw[hf] at pi;have nN:¬(0:Int)<= -1:=ae;simp only[go_sem,i100,s120,eH pi,nN]
def meq(a b:a7):Bool:=(a.k==b.k)&&((a.a==b.a)&&((a.b==b.b)&&((a.c==b.c)&&((a.l==b.l)&&((a.o==b.o)&&(a.s==b.s))))))
theorem akQ(x y:a7):uX [true,true,true,true,false,false,true] [.p (.int .i64 x.k),.p (.int .i64 x.a),.p (.int .i64 x.b),.p (.int .i64 x.c),.p (.bool x.l),.p (.bool x.o),.p (.int .i64 x.s)] [.p (.int .i64 y.k),.p (.int .i64 y.a),.p (.int .i64 y.b),.p (.int .i64 y.c),.p (.bool y.l),.p (.bool y.o),.p (.int .i64 y.s)]=some (meq x y):=by
 have e:∀a b:Int,uv true (.int .i64 a) (.int .i64 b)=some (a==b):=fun a b=>by simp[uv]
 have e2:∀a b:Bool,uv false (.bool a) (.bool b)=some (a==b):=fun a b=>by simp[uv]
 simp only[uX,meq,e,e2];cases (x.k==y.k)<;>cases (x.a==y.a)<;>cases (x.b==y.b)<;>cases (x.c==y.c)<;>cases (x.l==y.l)<;>cases (x.o==y.o)<;>cases (x.s==y.s)<;>rfl
theorem anQ(ms:List a7)(x:a7)(hm:ms.length<=1000000):∃i:Int,aI S 172 [.one (.p (.sl (mP ms))),GG x] (ri i):=by
 have:∃r,isN r/\aI S 172 [.one (.p (.sl (mP ms))),GG x] r:=by
  refine Fp rfl c172 (gY rfl) ?_;simp only[go_sem,i172];refine cV (fun k ak aj=>ak 0=.one (.p (.sl (mP ms)))/\ak 3=.one (.bk 11008000000 1 0)/\aj 11008000000=(1,some (.var [.p (.int .i64 x.k),.p (.int .i64 x.a),.p (.int .i64 x.b),.p (.int .i64 x.c),.p (.bool x.l),.p (.bool x.o),.p (.int .i64 x.s)]))/\ak 7=vi ms.length/\ak 8=vi k) 0 ms.length (bd _) ?_ ?_
  .simp only[go_sem];first|done|rfl|exact⟨rfl,rfl⟩|exact⟨rfl,rfl,rfl⟩
  rintro k ak aj hk ⟨h0,h3,hB,h7,h8⟩
  by_cases aw:k<ms.length
  .have aL:((k:Int)<(ms.length:Int)):=aa;obtain⟨m,qU⟩:=aK aw;have IP:=Nd qU;have w1:=cK (n:=k) aa;have he:=akQ x m;cases hb:meq x m with
   |true=>rw[hb] at he;simp only[go_sem,i172_l1,h0,h3,hB,h7,h8,aL,IP,a7.ps,he];exact⟨aH,_,⟨_,rfl⟩,rfl⟩
   |false=>rw[hb] at he;simp only[go_sem,i172_l1,h0,h3,hB,h7,h8,aw,aL,IP,a7.ps,w1,he];exact aH
  have:k=ms.length:=aa;subst this;simp only[go_sem,i172_l1,i172_r2,h7,h8,eK];exact⟨_,⟨_,rfl⟩,rfl⟩
 obtain⟨_,⟨i,rfl⟩,h⟩:=this;exact⟨i,h⟩
theorem Zn(ms:List a7)(x:a7)(hm:ms.length<=1000000):∃b,aI S 149 [.one (.p (.sl (mP ms))),GG x] (rb b):=by obtain⟨i,pi⟩:=anQ ms x hm;refine⟨decide (0<=i),?_⟩;refine aY c149 ?_;simp only[go_sem,i149,s172,eH pi]
abbrev fT:Nat:=56
abbrev edT:Nat:=3
def okM(k:Int)(av:Nat)(m:a7):Prop:=m.k=k/\m.a=(av:Int)/\m.l=false/\m.o=false/\m.s=0/\Di m
theorem lI2{l:List Int}(h:l.length=2):∃a b,l=[a,b]:=by
 match l,h with
 |[a,b],_=>exact⟨a,b,rfl⟩
theorem lI3{l:List Int}(h:l.length=3):∃a b c,l=[a,b,c]:=by
 match l,h with
 |[a,b,c],_=>exact⟨a,b,c,rfl⟩
def Jo(aj:aq)(v:V)(ao:aq):Prop:=v=.tup []/\ao=aj
theorem U3{Q:dy}{al:Al}{ak:Env}{aj:aq}{os:List bl}{d:Option Nat}{f:Nat}{vs:List V}{P:V->aq->Prop}(qX:(vs.map (jd aj)).flatten=[])(hh:al=.all\/(S.sites f).all al.fs.contains=true)
  (h:∀qH,qH.fs=S.sites f->∃v ao,iJ S f vs qH aj v ao/\P v ao) (hK:∀v ao,P v ao->RN S al os Q (put ak d v) ao):gP S al (.sc f vs) d os Q ak aj:=by
 refine rM (P:=P) ?_ (h _ rfl) hK;rcases hh with rfl|h2
 .rfl
 refine holds_of ?_ h2;show al.ff (vs.map (jd aj)).flatten=true;rw[qX];rfl
theorem anV{al:Al}{aj:aq}:∃v ao,iJ S 191 [.one (.p .nils),vi 0,vi 0,DK] al aj v ao/\Jo aj v ao:=by refine mr c191 (gY rfl) ?_;have w0:IntKind.i64.wrap 1=1:=ae;have hz:¬((1:Int)<0):=ae;simp only[go_sem,i191];refine sA ?_;simp only[go_sem,i191_l3,w0,hz];first|done|exact⟨rfl,rfl⟩|trace_state
theorem aqi{al:Al}{aj:aq}(f1:al.fs.contains 191=true)(lim:Int):∃v ao,iJ S 173 [.one (.p .nils),vi 0,vi 0,vi lim,DK] al aj v ao/\Jo aj v ao:=by refine mr c173 (gY rfl) ?_;have w0:IntKind.i64.wrap (0-0)=0:=ae;have gA:((0:Int)<=12):=ae;simp only[go_sem,i173];refine sA ?_;simp only[go_sem,i173_l1,w0,gA,s191];refine U3 (by rfl) (.inr (by rw[show S.sites 191=[191] by kernel_rfl];simp only[lk,oG,f1,wY])) (P:=Jo aj) (fun qH _=>anV) fun v ao hP=>?_;obtain⟨rfl,h2⟩:=hP;simp only[go_sem];exact⟨rfl,h2⟩
theorem ati{al:Al}{aj:aq}(f1:(S.sites 173).all al.fs.contains=true):∃v ao,iJ S 150 [.one (.p .nils),DK] al aj v ao/\Jo aj v ao:=by obtain⟨k,pb⟩:=Sl 0 aa;have wu:IntKind.u64.wrap ((0:Nat):Int)=((0:Nat):Int):=ae;refine mr c150 (gY rfl) ?_;have sbl:S.shared 148=false:=ah;simp only[go_sem,i150,wu,sbl,FX pb,s173];refine U3 (by rfl) (.inr f1) (P:=Jo aj) (fun qH h2=>aqi (by rw[h2];kernel_rfl) k) fun v ao hP=>?_;obtain⟨rfl,h2⟩:=hP;simp only[go_sem];exact⟨rfl,h2⟩
theorem ajX{ls:List Let}(g:dr F ls)(kk:Int){av:Nat}(ha:av<ls.length):∃ms:List a7,(ms.length<=2/\ ∀m∈ms,okM kk av m)/\aI S 124 [.one (.p (eB F ls)),vi kk,vi av] (.one (aR fT 7 (mP ms))):=by
 have hlen:=g.len;have hN:nD ls<=1600:=by have:=yP ls ls.length;unfold nD;have:(aE ls).length<=ls.length:=yP ls ls.length;omega
 suffices h:∃r,(∃ms:List a7,(ms.length<=2/\ ∀m∈ms,okM kk av m)/\r=.one (aR fT 7 (mP ms)))/\aI S 124 [.one (.p (eB F ls)),vi kk,vi av] r by obtain⟨r,⟨ms,h1,rfl⟩,h2⟩:=h;exact⟨ms,h1,h2⟩
 refine Fp rfl c124 (gY rfl) ?_;simp only[go_sem,i124];refine cV (fun k ak aj=>ak 0=.one (.p (eB F ls))/\ak 1=vi kk/\ak 2=vi av/\ak 14=vi k/\ ∃ms c,ms.length<=k/\(∀m∈ms,okM kk av m)/\ak 7=.one c/\grown 7937280192 fT 7 (mP ms) (.one c) aj) 0 2 (bd _) ?_ ?_
 .simp only[go_sem];exact⟨rfl,[],.p .nils,aX _,fun m h=>(by cases h),rfl,grown.nil⟩
 rintro k ak aj hk ⟨h0,h1,h2,lX,ms,c,xU,au,h7,gm⟩
 by_cases aw:k<2
 .have aL:((k:Int)<2):=aa;obtain⟨j,Gc,mE,Az⟩:=UM g (d:=2*av+k) aa;have Vv:=aU mE;have zA:=kQ Gc;have Gb:=UP mE;have m2:=yF (a:=av) aa;have m3:=wrap_add (a:=2*av) (b:=k) aa;have w1:=cK (n:=k) aa;have hdl:2*av+k<(nX F ls).length:=by rw[Wb];omega
  have hdd:=UN Vv;have amD:=UO g.ok Vv;obtain⟨_,_,hdm,_⟩:=aa3 (F:=F) (ls:=ls) (d:=2*av+k) aa;generalize hfe:tA F ls (2*av+k)=f at*;simp only[go_sem,i124_l4,h0,h2,lX,aL,m2,m3,zA,Gb,Fc.ps];refine⟨aH,?_⟩;obtain⟨g9,hg9⟩:∃g9,(aj 7936321024).fst+1=g9:=⟨_,rfl⟩;rw[hg9]
  refine cV (fun q cZ aZ=>cZ 0=.one (.p (eB F ls))/\cZ 1=vi kk/\cZ 2=vi av/\cZ 14=vi k/\cZ 7=.one c/\grown 7937280192 fT 7 (mP ms) (.one c) aZ/\cZ 9=.one (.bk 7936321024 g9 0)/\aZ 7936321024=(g9,some (.var (f.ps.map .p)))/\cZ 34=.one (.p (.sl (nP f.dh)))/\cZ 35=vi f.dh.length/\cZ 36=vi q/\(0<q->f.dh.length<=3)/\ ∃zs ce,zs.length=q/\(∀z∈zs,0<=z/\z<=1000000)/\cZ 10=.one ce/\grown 7936704256 edT 1 (iP zs) (.one ce) aZ) 0 f.dh.length (bd _) ?_ ?_
  .have gm':grown 7937280192 fT 7 (mP ms) (.one c) (dB (dB aj 7936321024 (g9,some (Ob.var [C.p (PV.bool false),C.p PV.nils,C.p PV.nils,C.p PV.nils,C.p (PV.bool false)]))) 7936321024 (g9,some (Ob.var (f.ps.map .p)))):=gm.of_eq ((aP ae).trans (aP ae));simp only[go_sem,h0,h1,h2,h7,lX,Fc.ps] at gm' ⊢;refine⟨gm',rfl,fun h=>h.elim,[],.p .nils,rfl,fun z h=>(by cases h),rfl,grown.nil⟩
  rintro q cZ aZ hq ⟨p0,p1,p2,vr,p7,FY,p9,b9,ER,Nn,No,h3,zs,ce,l8,hzb,CY,gz⟩
  simp only[Fc.ps,dG,kE] at b9;by_cases sM:q<f.dh.length
  .have VK:((q:Int)<(f.dh.length:Int)):=aa;obtain⟨d,hd⟩:=aK sM;have kM:=kQ hd;have hdb:=hdd d (aU hd);have wq:=wrap_small (n:=d/2) aa;have w2:=cK (n:=q) aa;by_cases c1:d/2<av
   .have c1':(((d/2:Nat):Int)<(av:Int)):=aa;simp only[go_sem,i124_l1,i124_r3,p0,p1,p2,vr,p7,p9,CY,ER,Nn,No,b9,sM,VK,kM,iI,jC,wq,c1',w1,aw];exact⟨ms,c,aa,au,rfl,FY⟩
   have c1':¬(((d/2:Nat):Int)<(av:Int)):=aa;by_cases c2:3<f.dh.length
   .have c2':((3:Int)<(f.dh.length:Int)):=aa;simp only[go_sem,i124_l1,i124_r3,p0,p1,p2,vr,p7,p9,CY,ER,Nn,No,b9,sM,VK,kM,iI,jC,wq,c1',c2',w1,aw];exact⟨ms,c,aa,au,rfl,FY⟩
   have c2':¬((3:Int)<(f.dh.length:Int)):=aa;simp only[go_sem,i124_l1,p2,p9,CY,ER,Nn,No,b9,VK,kM,iI,jC,wq,c1',c2'];refine qN (xs:=[[.int .i64 ((d/2:Nat):Int)]]) (gz.of_eq (aP ae)) (by simp only[ez,aM,if_true];rfl) (.inl rfl) (by simp only[wK,cq,dN];omega) fun c2 fG gz2 hb=>?_;have q9:=hb 7936321024 ae ae;have ze:=FY.of_eq ((hb 7937280192 ae ae).trans (aP ae));simp only[go_sem,b9] at q9;simp only[go_sem,p0,p1,p2,vr,p7,p9,ER,Nn,No,q9,w2,Fc.ps];refine⟨sM,ze,fun _=>aa,zs++[((d/2:Nat):Int)],c2,by simp;omega,fun z hz=>?_,rfl,?_⟩
   .rcases eF.1 hz with h|h
    .exact hzb z h
    have:=mR.1 h;omega
   rw[show iP (zs++[((d/2:Nat):Int)])=iP zs++[[.int .i64 ((d/2:Nat):Int)]] by simp[iP]];exact gz2
  have:q=f.dh.length:=aa;subst this;have amG:0<f.dh.length:=NU hdm;have Aq:=h3 amG;rcases gz with ⟨e,_⟩|⟨_,gg,e,bz⟩
  .have hz0:(iP zs).length=0:=by rw[e];rfl
   rw[wK] at hz0;omega
  cases e;have sS:S.shared 140=true:=ah;simp only[go_sem,i124_l1,i124_r2,CY,Nn,No,eK,sS,wK];refine Ao bz (by rfl) (.inl rfl) (P:=EZ tU 7936704256 gg edT zs aZ) (fun qH h1 h2=>W8 h1 (by rw[h2];kernel_rfl) aa bz) fun v fG hP=>?_;obtain⟨rfl,⟨ws,bw,pw,sw⟩,kw⟩:=hP;have ze:=FY.of_eq (kw 7937280192 ae);have lI:=pw.length_eq;have hwb:∀z∈ws,0<=z/\z<=1000000:=fun z hz=>hzb z (pw.mem_iff.1 hz);rw[l8] at lI;clear sw pw hzb b9 bz;clear h3 sM hdd amD Vv hdm hq;generalize f.dh.length=n at*;have s120:S.shared 149=false:=ah;have zQ:(((2:Nat):Int)==2)=true:=ae;have q12:(((1:Nat):Int)==2)=false:=ae;have q32:(((3:Nat):Int)==2)=false:=ae;have q13:(((1:Nat):Int)==3)=false:=ae;have ub:(((2:Nat):Int)==3)=false:=ae
  have q33:(((3:Nat):Int)==3)=true:=ae;rcases(by omega:n=1\/n=2\/n=3) with rfl|rfl|rfl
  .simp only[go_sem,i124_r3,p0,p1,p2,vr,p7,CY,l8,q12,q13,w1,aw];exact⟨ms,c,aa,au,rfl,ze.of_eq ((aP ae).trans (aP ae))⟩
  .obtain⟨y0,y1,rfl⟩:=lI2 lI;by_cases h8:kk=8
   .have e8:(kk !=8)=false:=by rw[h8];rfl
    simp only[go_sem,i124_r3,p0,p1,p2,vr,p7,CY,l8,zQ,ub,e8,w1,aw];exact⟨ms,c,aa,au,rfl,ze.of_eq ((aP ae).trans (aP ae))⟩
   have e8:(kk !=8)=true:=by simpa using h8
   simp only[go_sem,i124_r3,p1,p2,p7,CY,l8,zQ,e8,bw];obtain⟨bb,pcv⟩:=Zn ms ⟨kk,av,y1,0,false,false,0⟩ aa;have Wx:aI S 149 [.one (.p (.sl (mP ms))),.agg [.p (.int .i64 kk),.p (.int .i64 av),.p (.int .i64 y1),.p (.int .i64 0),.p (.bool false),.p (.bool false),.p (.int .i64 0)]] (rb bb):=pcv;obtain⟨r,snB,hr⟩:=ze.Dj;simp only[go_sem,s120,snB,cS Wx];cases bb with
   |true=>simp only[go_sem,p0,p1,p2,vr,p7,w1,aw];exact⟨ms,c,aa,au,rfl,ze.of_eq (by simp only[aM,Nat.reduceEqDiff,if_false])⟩
   |false=>
    simp only[go_sem,p7];refine qN (xs:=[a7.ps ⟨kk,av,y1,0,false,false,0⟩]) (ze.of_eq (by simp only[aM,Nat.reduceEqDiff,if_false])) (by simp only[ez,aM,if_true];rfl) (.inl rfl) (by simp only[nY,cq,dN];omega) fun c2 iE zg jv=>?_;simp only[go_sem,p0,p1,p2,vr,w1,aw];refine⟨ms++[⟨kk,av,y1,0,false,false,0⟩],c2,by simp;omega,fun m hm=>?_,rfl,by rw[show mP (ms++[⟨kk,av,y1,0,false,false,0⟩])=mP ms++[a7.ps ⟨kk,av,y1,0,false,false,0⟩] by simp[mP]];exact zg⟩;rcases eF.1 hm with h|h
    .exact au m h
    have:=mR.1 h;subst this;exact⟨rfl,rfl,rfl,rfl,rfl,hwb y1 af,af⟩
  obtain⟨y0,y1,y2,rfl⟩:=lI3 lI;by_cases h8:kk=8
  .have e8:(kk==8)=true:=by rw[h8];rfl
   simp only[go_sem,i124_r3,p1,p2,p7,CY,l8,q32,q33,e8,bw];obtain⟨bb,pcv⟩:=Zn ms ⟨kk,av,y1,y2,false,false,0⟩ aa;have Wx:aI S 149 [.one (.p (.sl (mP ms))),.agg [.p (.int .i64 kk),.p (.int .i64 av),.p (.int .i64 y1),.p (.int .i64 y2),.p (.bool false),.p (.bool false),.p (.int .i64 0)]] (rb bb):=pcv;obtain⟨r,snB,hr⟩:=ze.Dj;refine⟨aH,?_⟩;simp only[go_sem,s120,snB,cS Wx];cases bb with
   |true=>simp only[go_sem,p0,p1,p2,vr,p7,w1,aw];exact⟨ms,c,aa,au,rfl,ze.of_eq (by simp only[aM,Nat.reduceEqDiff,if_false])⟩
   |false=>
    simp only[go_sem,p7];refine qN (xs:=[a7.ps ⟨kk,av,y1,y2,false,false,0⟩]) (ze.of_eq (by simp only[aM,Nat.reduceEqDiff,if_false])) (by simp only[ez,aM,if_true];rfl) (.inl rfl) (by simp only[nY,cq,dN];omega) fun c2 iE zg jv=>?_;simp only[go_sem,p0,p1,p2,vr,w1,aw];refine⟨ms++[⟨kk,av,y1,y2,false,false,0⟩],c2,by simp;omega,fun m hm=>?_,rfl,by rw[show mP (ms++[⟨kk,av,y1,y2,false,false,0⟩])=mP ms++[a7.ps ⟨kk,av,y1,y2,false,false,0⟩] by simp[mP]];exact zg⟩;rcases eF.1 hm with h|h
    .exact au m h
    have:=mR.1 h;subst this;exact⟨rfl,rfl,rfl,rfl,rfl,hwb y1 af,hwb y2 af⟩
  have e8:(kk==8)=false:=by simpa using h8
  simp only[go_sem,i124_r3,p0,p1,p2,vr,p7,CY,l8,q32,q33,e8,w1,aw];exact⟨ms,c,aa,au,rfl,ze.of_eq ((aP ae).trans (aP ae))⟩
 have:k=2:=aa;subst this;have nN:¬(((2:Nat):Int)<2):=ae;have sS:S.shared 150=true:=ah;simp only[go_sem,i124_l4,i124_r5,h7,lX,nN,sS];rcases gm with ⟨e,e2⟩|⟨aF,gg,e2,bm⟩
 .cases e2;have:ms=[]:=by simpa [mP] using e
  subst this;refine U3 (by rfl) (.inl rfl) (P:=Jo aj) (fun qH h2=>ati (by rw[h2];kernel_rfl)) fun v fG hP=>?_;obtain⟨rfl,rfl⟩:=hP;simp only[go_sem,h7];exact⟨_,⟨[],⟨af,fun m h=>by cases h⟩,rfl⟩,rfl⟩
 cases e2;rw[nY] at h7 ⊢;refine Ao bm (by rfl) (.inl rfl) (P:=JP 7937280192 gg fT ms aj) (fun qH h1 h2=>atj h1 (by rw[h2];kernel_rfl) aa (fun m hm=>(au m hm).2.2.2.2.2) bm) fun v fG hP=>?_;obtain⟨rfl,⟨ws,bw,pw,sw⟩,kw⟩:=hP;simp only[go_sem,h7];have lI:=pw.length_eq;refine⟨_,⟨ws,⟨aa,fun m hm=>au m (pw.mem_iff.1 hm)⟩,rfl⟩,?_⟩;rw[<- lI,<- nY ws];refine tE (.inr ⟨fun e=>aF ?_,gg,rfl,bw⟩);have h0:(mP ws).length=0:=by rw[e];rfl
 rw[nY,lI] at h0;rw[uL.1 h0];rfl
def A9(k:Int)(n:Nat)(m:a7):Prop:= ∃a,a<n/\okM k a m
theorem Wr{k:Int}{n a:Nat}{ms ns:List a7}(h:∀m∈ms,A9 k n m)(h2:∀m∈ns,okM k a m)(ha:a<n):∀m∈ms++ns,A9 k n m:=fun m hm=>(eF.1 hm).elim (h m) fun h3=>⟨a,ha,h2 m h3⟩
section
variable {F:Nat} {ls:List Let}
theorem ajl(g:dr F ls)(aF:0<ls.length){kk:Int}(d2:(kk==2)=false)(d5:(kk==5)=false)(d7:(kk==7)=false)(d3:(kk==3)=false)(d6:(kk==6)=false)(d8:(kk==8)=false):∃ms:List a7,(ms.length<=2*ls.length/\ ∀m∈ms,A9 kk ls.length m)/\aI S 101 [.one (.p (eB F ls)),vi kk] (.one (aR fT 7 (mP ms))):=by
 have hlen:=g.len;have bK:(dJ (pieces ls)).length=ls.length:=by rw[dJ,cF,fi]
 have iZ:(((ls.length:Nat):Int)==0)=false:=by rw[beq_eq_false_iff_ne];omega
 suffices h:∃r,(∃ms:List a7,(ms.length<=2*ls.length/\ ∀m∈ms,A9 kk ls.length m)/\r=.one (aR fT 7 (mP ms)))/\aI S 101 [.one (.p (eB F ls)),vi kk] r by obtain⟨r,⟨ms,h1,rfl⟩,h2⟩:=h;exact⟨ms,h1,h2⟩
 refine Fp rfl c101 (gY rfl) ?_;simp only[go_sem,i101,i101_r12,bK,iZ];refine cV (fun k ak aj=>ak 0=.one (.p (eB F ls))/\ak 1=vi kk/\ak 41=vi ls.length/\ak 42=vi k/\ ∃ms c,ms.length<=2*k/\(∀m∈ms,A9 kk ls.length m)/\ak 5=.one c/\grown 6464768320 fT 7 (mP ms) (.one c) aj) 0 ls.length (bd _) ?_ ?_
 .simp only[go_sem];exact⟨rfl,[],.p .nils,af,fun m h=>(by cases h),rfl,grown.nil⟩
 rintro k ak aj hk ⟨h0,h1,zh,tF,ms,c,xU,au,h5,gm⟩
 by_cases aw:k<ls.length
 .have aL:((k:Int)<(ls.length:Int)):=aa;have w1:=cK (n:=k) aa;simp only[go_sem,i101_l10,i101_r9,h1,zh,tF,h5,aL,d2,d5,d7,d3,d6,d8];refine qN (xs:=[a7.ps ⟨kk,k,0,0,false,false,0⟩]) (gm.of_eq (by simp only[aM,Nat.reduceEqDiff,if_false])) (by simp only[ez,aM,if_true];rfl) (.inl rfl) (by simp only[nY,cq,dN];omega) fun c2 iE zg jv=>?_;simp only[go_sem,h0,h1,zh,tF,w1,aw];refine⟨ms++[⟨kk,k,0,0,false,false,0⟩],c2,by simp;omega,fun m hm=>?_,rfl,by rw[show mP (ms++[⟨kk,k,0,0,false,false,0⟩])=mP ms++[a7.ps ⟨kk,k,0,0,false,false,0⟩] by simp[mP]];exact zg⟩;rcases eF.1 hm with h|h
  .exact au m h
  have:=mR.1 h;subst this;exact⟨k,aw,rfl,rfl,rfl,rfl,rfl,by simp[Di]⟩
 have:k=ls.length:=aa;subst this;simp only[go_sem,i101_l10,i101_r11,zh,tF,h5,eK];exact⟨_,⟨ms,⟨xU,au⟩,rfl⟩,tE gm⟩
theorem ajk(g:dr F ls)(aF:0<ls.length){kk:Int}(u7:kk=3\/kk=6\/kk=8):∃ms:List a7,(ms.length<=2*ls.length/\ ∀m∈ms,A9 kk ls.length m)/\aI S 101 [.one (.p (eB F ls)),vi kk] (.one (aR fT 7 (mP ms))):=by
 have hlen:=g.len;have lo:S.lone 6466944256=false:=ah;have bK:(dJ (pieces ls)).length=ls.length:=by rw[dJ,cF,fi]
 have iZ:(((ls.length:Nat):Int)==0)=false:=by rw[beq_eq_false_iff_ne];omega
 suffices h:∃r,(∃ms:List a7,(ms.length<=2*ls.length/\ ∀m∈ms,A9 kk ls.length m)/\r=.one (aR fT 7 (mP ms)))/\aI S 101 [.one (.p (eB F ls)),vi kk] r by obtain⟨r,⟨ms,h1,rfl⟩,h2⟩:=h;exact⟨ms,h1,h2⟩
 have d2:(kk==2)=false:=by rw[beq_eq_false_iff_ne];omega
 have d5:(kk==5)=false:=by rw[beq_eq_false_iff_ne];omega
 have d7:(kk==7)=false:=by rw[beq_eq_false_iff_ne];omega
 refine Fp rfl c101 (gY rfl) ?_;simp only[go_sem,i101,i101_r12,bK,iZ];refine cV (fun k ak aj=>ak 0=.one (.p (eB F ls))/\ak 1=vi kk/\ak 41=vi ls.length/\ak 42=vi k/\ ∃ms c,ms.length<=2*k/\(∀m∈ms,A9 kk ls.length m)/\ak 5=.one c/\grown 6466944320 fT 7 (mP ms) (.one c) aj) 0 ls.length (bd _) ?_ ?_
 .simp only[go_sem];exact⟨rfl,[],.p .nils,af,fun m h=>(by cases h),rfl,grown.nil⟩
 rintro k ak aj hk ⟨h0,h1,zh,tF,ms,c,xU,au,h5,gm⟩
 by_cases aw:k<ls.length
 .have aL:((k:Int)<(ls.length:Int)):=aa;have w1:=cK (n:=k) aa;obtain⟨ns,⟨vd,Mv⟩,pc⟩:=ajX g kk aw;cases d3:(kk==3) with
  |true=>simp only[go_sem,i101_l10,i101_r9,h0,h1,zh,tF,h5,aL,d2,d5,d7,d3,s124];refine lW pc lo (.inl rfl) fun cc bG gl cU=>?_;have Ck:=gm.of_eq (cU 6466944320 ae);obtain⟨r,hx,hr⟩:=gl.elems;simp only[go_sem];refine qN (xs:=mP ns) Ck hx gl.gC (by simp only[nY];omega) fun c2 iE zg jv=>?_;simp only[go_sem,h0,h1,zh,tF,w1,aw];exact⟨ms++ns,c2,by simp;omega,Wr au Mv aw,rfl,by rw[show mP (ms++ns)=mP ms++mP ns by simp[mP]];exact zg⟩
  |false=>
   cases d6:(kk==6) with
   |true=>simp only[go_sem,i101_l10,i101_r9,h0,h1,zh,tF,h5,aL,d2,d5,d7,d3,d6,s124];refine lW pc lo (.inl rfl) fun cc bG gl cU=>?_;have Ck:=gm.of_eq (cU 6466944320 ae);obtain⟨r,hx,hr⟩:=gl.elems;simp only[go_sem];refine qN (xs:=mP ns) Ck hx gl.gC (by simp only[nY];omega) fun c2 iE zg jv=>?_;simp only[go_sem,h0,h1,zh,tF,w1,aw];exact⟨ms++ns,c2,by simp;omega,Wr au Mv aw,rfl,by rw[show mP (ms++ns)=mP ms++mP ns by simp[mP]];exact zg⟩
   |false=>
    have d8:(kk==8)=true:=by
     rcases u7 with rfl|rfl|rfl
     .cases d3
     .cases d6
     rfl
    simp only[go_sem,i101_l10,i101_r9,h0,h1,zh,tF,h5,aL,d2,d5,d7,d3,d6,d8,s124];refine lW pc lo (.inl rfl) fun cc bG gl cU=>?_;have Ck:=gm.of_eq (cU 6466944320 ae);obtain⟨r,hx,hr⟩:=gl.elems;simp only[go_sem];refine qN (xs:=mP ns) Ck hx gl.gC (by simp only[nY];omega) fun c2 iE zg jv=>?_;simp only[go_sem,h0,h1,zh,tF,w1,aw];exact⟨ms++ns,c2,by simp;omega,Wr au Mv aw,rfl,by rw[show mP (ms++ns)=mP ms++mP ns by simp[mP]];exact zg⟩
 have:k=ls.length:=aa;subst this;simp only[go_sem,i101_l10,i101_r11,zh,tF,h5,eK];exact⟨_,⟨ms,⟨xU,au⟩,rfl⟩,tE gm⟩
end
abbrev BX:Nat:=24
theorem au3{a:PV}{id g z o l:Nat}:Bq [[.p a,.hsl id g z o l]]=none:=rfl
theorem akD{aj:aq}{s g ty sd td zd:Nat}{x:Int}{cd:C}{D:List (List PV)}(hb:aj s=(g,some (.iQ ty 2 [[.p (.int .i64 x),cd]])))(gd:grown sd td zd D (.one cd) aj):
  ∃fr,ez aj (.one (.hsl s g 2 0 1))=some ([[.int .i64 x,.sl D]],[s],fr)/\pY aj fr/\(fr=[]\/fr=[sd]):=by
 obtain⟨r1,n1,a1,q1⟩:=gd.QX;refine⟨r1,?_,a1,q1⟩;simp only[ez,hb];simp[collect,n1,Q0,PV.norm]
abbrev wL(k:Int):Prop:=k5 k
def r5(F:Nat)(ls:List Let)(want:List Int)(m:a7):Prop:=m.k∈want/\A9 m.k ls.length m/\ ∃M,uR F ls m.k m.a m.b m.c m.l m.o m.s=pN F M
section
variable {F:Nat} {ls:List Let}
theorem ajn(g:dr F ls)(aF:0<ls.length){kk:Int}(h:wL kk):∃ms:List a7,(ms.length<=2*ls.length/\ ∀m∈ms,A9 kk ls.length m)/\aI S 101 [.one (.p (eB F ls)),vi kk] (.one (aR fT 7 (mP ms))):=by
 have n2:kk≠2:=by unfold wL k5 at h;omega
 have n5:kk≠5:=by unfold wL k5 at h;omega
 have n7:kk≠7:=by unfold wL k5 at h;omega
 by_cases hc:kk=3\/kk=6\/kk=8
 .exact ajk g aF hc
 exact ajl g aF (beq_eq_false_iff_ne.2 n2) (beq_eq_false_iff_ne.2 n5) (beq_eq_false_iff_ne.2 n7) (beq_eq_false_iff_ne.2 fun e=>hc (.inl e)) (beq_eq_false_iff_ne.2 fun e=>hc (.inr (.inl e))) (beq_eq_false_iff_ne.2 fun e=>hc (.inr (.inr e)))
theorem ath(g:dr F ls)(aF:0<ls.length)(want:List Int)(lI:want.length<=10)(hw:∀k∈want,wL k):∃ms cs,(ms.length<=8000/\ ∀m∈ms,r5 F ls want m)/\aI S 82 [.one (.p (eB F ls)),.one (.p (.sl (iP want)))] (.tup [.one (aR fT 7 (mP ms)),.one (aR BX 2 cs)]):=by
 have hlen:=g.len;have kA:S.lone 5248448128=false:=ah;have pG:S.lone 5248640128=false:=ah
 suffices h:∃r,(∃ms cs,(ms.length<=8000/\ ∀m∈ms,r5 F ls want m)/\r=.tup [.one (aR fT 7 (mP ms)),.one (aR BX 2 cs)])/\aI S 82 [.one (.p (eB F ls)),.one (.p (.sl (iP want)))] r by obtain⟨r,⟨ms,cs,h1,rfl⟩,h2⟩:=h;exact⟨ms,cs,h1,h2⟩
 refine Fp rfl c82 (gY rfl) ?_;simp only[go_sem,i82];refine cV (fun k ak aj=>ak 0=.one (.p (eB F ls))/\ak 1=.one (.p (.sl (iP want)))/\ak 8=vi ((k+1:Nat):Int)/\ ∃ms cs c d,ms.length<=800*k/\cs.length<=800*k/\(∀m∈ms,r5 F ls want m)/\ak 6=.one c/\ak 7=.one d/\grown 5248768192 fT 7 (mP ms) (.one c) aj/\grown 5248768448 BX 2 cs (.one d) aj) 0 10 (bd _) ?_ ?_
 .simp only[go_sem];exact⟨rfl,[],[],.p .nils,.p .nils,af,af,fun m h=>(by cases h),rfl,rfl,grown.nil,grown.nil⟩
 rintro k ak aj hk ⟨e0,e1,e8,ms,cs,c,d,xU,cY,au,e6,e7,gm,gc⟩
 by_cases aw:k<10
 .have aL:((k+1:Nat):Int)<=10:=aa;have w1:=cK (n:=k+1) aa;have ph:=Zm want ((k+1:Nat):Int) aa;cases hc:want.contains ((k+1:Nat):Int) with
  |false=>rw[hc] at ph;simp only[go_sem,i82_l3,i82_r2,e0,e1,e6,e7,e8,aL,s100,cS ph,w1];exact⟨aw,ms,cs,c,d,aa,aa,au,rfl,rfl,gm,gc⟩
  |true=>
   have oZ:((k+1:Nat):Int)∈want:=by simpa using hc
   obtain⟨ns,⟨vd,Mv⟩,pc⟩:=ajn g aF (hw _ oZ);rw[hc] at ph;simp only[go_sem,i82_l3,e0,e1,e8,aL,s100,cS ph,s101];refine lW pc kA (.inl rfl) fun cc bG gl cU=>?_;have Ck:=gm.of_eq (cU 5248768192 ae);have gc1:=gc.of_eq (cU 5248768448 ae);rcases gl with ⟨e,e2⟩|⟨_,gg,e,nM⟩
   .cases e2;simp only[go_sem];refine sA ?_;simp only[go_sem,i82_l1,i82_r2,e0,e1,e6,e7,e8,zz,w1];exact⟨aw,ms,cs,c,d,aa,aa,au,rfl,rfl,Ck,gc1⟩
   cases e;rw[nY];simp only[go_sem];refine cV (fun j ak aj=>ak 0=.one (.p (eB F ls))/\ak 1=.one (.p (.sl (iP want)))/\ak 8=vi ((k+1:Nat):Int)/\ak 23=.one (.hsl 5248448128 gg 7 0 ns.length)/\ak 24=vi ns.length/\ak 25=vi j/\aj 5248448128=(gg,some (.arr fT 7 (mP ns)))/\ ∃ms cs c d,ms.length<=800*k+j/\cs.length<=800*k+j/\(∀m∈ms,r5 F ls want m)/\ak 6=.one c/\ak 7=.one d/\grown 5248768192 fT 7 (mP ms) (.one c) aj/\grown 5248768448 BX 2 cs (.one d) aj) 0 ns.length (bd _) ?_ ?_
   .simp only[go_sem,e0,e1,e6,e7,e8];exact⟨rfl,nM,ms,cs,c,d,aa,aa,au,rfl,rfl,Ck,gc1⟩
   clear gm gc Ck gc1 au xU cY nM cU e0 e1 e6 e7 e8;rintro j ak aj hj ⟨q0,q1,q8,ub,qA,Be,bL,ms,cs,c,d,xU,cY,au,q6,q7,gm,gc⟩
   by_cases sJ:j<ns.length
   .have Gh:((j:Int)<(ns.length:Int)):=aa;have w2:=cK (n:=j) aa;obtain⟨m,qU⟩:=aK sJ;have hJ:=Nd qU;have wD:=Mv m (aU qU);have hkm:m.k=((k+1:Nat):Int):=wD.choose_spec.2.1;have am1:(mP ns).length=ns.length:=nY ns;have zB:k5 m.k:=by rw[hkm];exact hw _ oZ
    have pd:=do5 g zB m.a m.b m.c m.l m.o m.s;rcases Oe g zB m.a m.b m.c m.l m.o m.s with ⟨e,he,ha⟩|⟨M,ha,_⟩
    .rw[ha] at pd;have Ct:(e==0)=false:=by simpa using he
     simp only[go_sem,i82_l1,q0,q1,q6,q7,q8,ub,qA,Be,bL,sJ,Gh,hJ,a7.ps,s75,cX pd aok,Ct,w2];exact⟨ms,cs,c,d,aa,aa,au,rfl,rfl,gm.of_eq (by simp only[aM,Nat.reduceEqDiff,if_false]),gc.of_eq (by simp only[aM,Nat.reduceEqDiff,if_false])⟩
    have Ps:r5 F ls want m:=⟨by rw[hkm];exact oZ,by rw[hkm];exact wD,M,ha⟩;rw[ha] at pd;simp only[go_sem,i82_l1,q0,ub,qA,Be,bL,sJ,Gh,hJ,a7.ps,s75];refine abG pd pG fun cx aZ gx aV=>?_;have b10:=aV 5248576128 ae;simp only[go_sem] at b10;have bL2:=(aV 5248448128 ae).trans ((aP ae).trans ((aP ae).trans bL));have FY:=gm.of_eq ((aV 5248768192 ae).trans (by simp only[aM,Nat.reduceEqDiff,if_false]));have rO:=gc.of_eq ((aV 5248768448 ae).trans (by simp only[aM,Nat.reduceEqDiff,if_false]));have IQ:∀m'∈ms++[m],r5 F ls want m':=fun m' h=>(eF.1 h).elim (au m') fun h=>(mR.1 h)▸Ps;have wE:mP (ms++[m])=mP ms++[a7.ps m]:=by simp[mP]
    rcases gx with ⟨eM,e2⟩|⟨am7,g2,e2,LI⟩
    .cases e2;simp only[go_sem,b10,q6];refine xz (site:=5248768192) (id:=5248768192) (bytes:=48) (xs:=[a7.ps m]) (rd:=[5248768128]) (FY.of_eq (by simp only[aM,Nat.reduceEqDiff,if_false])) (by simp[ez,aM,a7.ps]) (.inl rfl) (by simp only[nY,cq,dN];omega) fun c' fG r1 u1 fH eW ky=>?_;have KE:=eW 5248640384 ae ae;simp only[go_sem] at KE;simp only[go_sem,KE,q7];have Iq:=rO.of_eq ((eW 5248768448 ae ae).trans (by simp only[aM,Nat.reduceEqDiff,if_false]:_=aZ 5248768448));refine xz (site:=5248768448) (id:=5248768448) (bytes:=32) (xs:=[[.int .i64 F,.sl []]]) (rd:=[5248768384]) (Iq.of_eq (aP ae)) (by simp[ez,aM]) (.inl rfl) (by simp only[cq,dN];omega) fun d' iE r2 u2 Au jv sN=>?_
     have KG:=(jv 5248448128 ae ae).trans ((aP ae).trans (eW 5248448128 ae ae));simp only[aM,Nat.reduceEqDiff,if_false] at KG;have bL5:=KG.trans bL2;simp only[go_sem,q0,q1,q6,q7,q8,ub,qA,Be,bL5,w2,sJ];refine⟨?_,ms++[m],_,c',d',by simp;omega,by simp;omega,IQ,rfl,rfl,?_,Au⟩
     .rcases ky with ⟨rfl,rfl⟩|⟨rfl,rfl⟩|⟨rfl,rfl⟩<;>rcases sN with ⟨rfl,rfl⟩|⟨rfl,rfl⟩|⟨rfl,rfl⟩<;>kernel_rfl
     rw[wE];exact fH.of_eq ((jv 5248768192 ae ae).trans (aP ae))
    cases e2;simp only[go_sem,b10,q6];refine xz (site:=5248768192) (id:=5248768192) (bytes:=48) (xs:=[a7.ps m]) (rd:=[5248768128]) (FY.of_eq (by simp only[aM,Nat.reduceEqDiff,if_false])) (by simp[ez,aM,a7.ps]) (.inl rfl) (by simp only[nY,cq,dN];omega) fun c' fG r1 u1 fH eW ky=>?_;have KE:=eW 5248640384 ae ae;simp only[go_sem] at KE;simp only[go_sem,KE,q7];have bx3:=(eW (5248640128+1) ae ae);simp only[Nat.reduceAdd,aM,Nat.reduceEqDiff,if_false] at bx3 LI;have hx3:=bx3.trans LI;have gx3:grown (5248640128+1) lK 6 (dA M) (.one (.hsl (5248640128+1) g2 6 0 M.length)) fG:=.inr ⟨am7,g2,by rw[dA,cF],hx3⟩
    obtain⟨fr,hx,Av,Ga⟩:=akD (aj:=dB fG 5248768384 ((fG 5248768384).1+1,some (.iQ BX 2 [[.p (.int .i64 F),.hsl (5248640128+1) g2 6 0 M.length]]))) (s:=5248768384) sZ (gx3.of_eq (aP ae));have Iq:=rO.of_eq ((eW 5248768448 ae ae).trans (by simp only[aM,Nat.reduceEqDiff,if_false]:_=aZ 5248768448));have nf:∀i,i≠5248640128+1->i∉fr:=fun i a h=>by
     rcases Ga with rfl|rfl
     .cases h
     exact a (mR.1 h)
    refine aj9 (site:=5248768448) (id:=5248768448) (bytes:=32) (Iq.of_eq (aP ae)) hx Av (nf _ ae) (nf _ ae) (.inl rfl) (by simp only[cq,dN];omega) fun d' iE r2 u2 Au jv sN=>?_;have KG:=(jv 5248448128 ae ae (nf _ ae)).trans ((aP ae).trans (eW 5248448128 ae ae));simp only[aM,Nat.reduceEqDiff,if_false] at KG;have bL5:=KG.trans bL2;simp only[go_sem,q0,q1,q6,q7,q8,ub,qA,Be,bL5,w2,sJ];refine⟨?_,ms++[m],_,c',d',by simp;omega,by simp;omega,IQ,rfl,rfl,?_,Au⟩
    .rcases Ga with rfl|rfl<;>rcases ky with ⟨rfl,rfl⟩|⟨rfl,rfl⟩|⟨rfl,rfl⟩<;>rcases sN with ⟨rfl,rfl⟩|⟨rfl,rfl⟩|⟨rfl,rfl⟩<;>kernel_rfl
    rw[wE];exact fH.of_eq ((jv 5248768192 ae ae (nf _ ae)).trans (aP ae))
   have:j=ns.length:=aa;subst this;simp only[go_sem,i82_l1,i82_r2,q0,q1,q6,q7,q8,qA,Be,eK,w1];exact⟨aw,ms,cs,c,d,aa,aa,au,rfl,rfl,gm,gc⟩
 have:k=10:=aa;subst this;have jl:¬(((10+1:Nat):Int)<=10):=ae;simp only[go_sem,i82_l3,i82_r4,e6,e7,e8,jl];exact⟨_,⟨ms,cs,⟨xU,au⟩,rfl⟩,O5 ae gm gc⟩
end
theorem V0{l:List Pc}{drop:Nat->Pc->Bool}{i:Nat}{p:Pc}(hp:l[i]?=some p)(hd:drop i p=true):(k9 l drop).length<l.length:=by
 have hi:=(aS.1 hp).1;have key:∀k,k<=l.length->i<k->(ny l drop k).length<k:=by
  intro k
  induction k with
  |zero=>intro _ h;exact absurd h (qE i)
  |succ k ih=>
   intro hk hik;by_cases e:i=k
   .subst e;rw[uD hp hd];have:=GA l drop i;omega
   obtain⟨q,hq⟩:=aK (ls:=l) (k:=k) aa;have:=ih aa aa;cases xO:drop k q
   .rw[AZ hq xO,dX];simp only[cq,dN];omega
   rw[uD hq xO];omega
 exact key l.length (aX _) hi
theorem abd{q:Let->Bool}(l:List Pc):ay q (mw l)=l.countP fun p=>q p.l:=by
 have e:ay q (l.map Pc.l)=l.countP fun p=>q p.l:=by show List.countP _ (List.map _ _)=_;rw[Du];rfl
 rw[<- e];have hf:(qM l).getD 0<=l.length:=by
  cases h:qM l with
  |none=>exact bd _
  |some f=>have:=Fi h;simp at this;simp only[mS];omega
 unfold mw;rw[QK hf];show List.countP _ _=List.countP _ _;rw[km,vE,Fk,<- vE,<- km,kG]
section
variable {F:Nat} {ls:List Let}
theorem apE{k:Int}(hk:k=1\/k=4\/k=6){a b c:Nat}{l o:Bool}{sg:Int}(ha:a<ls.length){L:List Pc}(h:qZ F ls k a b c l o sg=some L):L.length<ls.length:=by
 obtain⟨p,hp⟩:=aK (ls:=pieces ls) (k:=a) (by rw[fi];exact ha);have bK:=fi ls;have hg:(pieces ls).getD a ⟨j9,false⟩=p:=by simp[de,hp]
 rcases hk with rfl|rfl|rfl
 .have h:xj ls a=some L:=h;unfold xj at h;simp only at h;split at h
  .cases h;show(List.map _ _).length<_;rw[cF,<- bK];exact V0 hp af
  cases h
 .have h:yg ls a=some L:=h;unfold yg at h;simp only at h;rw[hg] at h;split at h
  .rename_i hc;cases h;show(List.map _ _).length<_;rw[cF,<- bK];simp only[cH] at hc;exact V0 hp (by unfold sD;rw[hc.1];simp)
  cases h
 have h:yt F ls a b=some L:=h;unfold yt at h;rw[jA hp] at h;split at h
 .rename_i hc;cases h;show(List.map _ _).length<_;rw[cF,<- bK];have jH:(p.l.kind==2)=true:=by
   simp only[cH,By] at hc;unfold kJ at hc;rw[jA hp] at hc;simp only[cH] at hc;rcases hc.1 with h|h
   .exact h.1.1
   exact h.1.1
  exact V0 hp (by unfold sD;rw[jH];simp)
 cases h
theorem aj5(g:dr F ls){want:List Int}{m:a7}(hm:r5 F ls want m)(hk:m.k=1\/m.k=4\/m.k=6):∃M,uR F ls m.k m.a m.b m.c m.l m.o m.s=pN F M/\cN F M=0/\M.length<ls.length/\ay Let.aA M<=ay Let.aA ls/\ay Let.aC M<=ay Let.aC ls:=by
 obtain⟨_,⟨av,ha,_,ea,_⟩,M0,e0⟩:=hm;have zB:k5 m.k:=by unfold k5;omega
 rcases Oe g zB m.a m.b m.c m.l m.o m.s with ⟨e,he,h⟩|⟨M,h,hc,_,L,hL,rfl⟩
 .rw[e0] at h;unfold pN sX at h;simp only[RV.tup.injEq,Fh,RV.one.injEq,RC.p.injEq,PV.int.injEq,and_true,true_and] at h;exact absurd h.2.symm he
 rw[ea,uK] at hL;have bK:=fi ls;have aw:=apE hk ha hL;have hb:m.b.toNat<ls.length\/(m.k≠3/\m.k≠8):=.inr ⟨aa,aa⟩;have tH:m.c.toNat<ls.length\/m.k≠8:=.inr aa;have kC:GB (fun p=>p.l.aC):=fun p p' h=>by show(p.l.kind==2)=(p'.l.kind==2);rw[h]
 have kP:GB (fun p=>p.l.aA):=fun p p' h=>by show(p.l.kind==1)=(p'.l.kind==1);rw[h]
 have pq:∀q:Let->Bool,(pieces ls).countP (fun p=>q p.l)=ay q ls:=fun q=>by rw[<- Qs (ls:=ls) q];show _=List.countP _ (List.map _ _);rw[Du];rfl
 have c1:=Qb g kP zB ha hb tH hL;have c2:=Qb g kC zB ha hb tH hL;rw[pq] at c1 c2;exact⟨_,h,hc,by rw[abc];exact aw,by rw[abd];exact c1,by rw[abd];exact c2⟩
end
section
variable {F:Nat}
theorem ajm{k:Int}(hk:(k==2)=false):aI S 101 [.one (.p (eB F [])),vi k] (.one (aR fT 7 [])):=by have bK:(dJ (pieces [])).length=0:=rfl;have h7:(((0:Nat):Int)==0)=true:=ae;refine aY c101 ?_;simp only[go_sem,i101,i101_r12,bK,h7,hk];refine sA ?_;simp only[go_sem,i101_l10,i101_r11,zz];rfl
theorem atf(want:List Int)(lI:want.length<=10)(hw:∀k∈want,wL k):aI S 82 [.one (.p (eB F [])),.one (.p (.sl (iP want)))] (.tup [.one (aR fT 7 []),.one (aR BX 2 [])]):=by
 have kA:S.lone 5248448128=false:=ah;refine aY c82 ?_;simp only[go_sem,i82];refine cV (fun k ak aj=>ak 0=.one (.p (eB F []))/\ak 1=.one (.p (.sl (iP want)))/\ak 8=vi ((k+1:Nat):Int)/\ak 6=.one (.p .nils)/\ak 7=.one (.p .nils)) 0 10 (bd _) ?_ ?_
 .simp only[go_sem];rfl
 rintro k ak aj hk ⟨e0,e1,e8,e6,e7⟩
 by_cases aw:k<10
 .have aL:((k+1:Nat):Int)<=10:=aa;have w1:=cK (n:=k+1) aa;have ph:=Zm want ((k+1:Nat):Int) aa;cases hc:want.contains ((k+1:Nat):Int) with
  |false=>rw[hc] at ph;simp only[go_sem,i82_l3,i82_r2,e0,e1,e6,e7,e8,aL,s100,cS ph,w1];exact aw
  |true=>
   have oZ:((k+1:Nat):Int)∈want:=by simpa using hc
   have pc:=ajm (F:=F) (k:=((k+1:Nat):Int)) (beq_eq_false_iff_ne.2 (by have:=hw _ oZ;unfold wL k5 at this;omega));rw[hc] at ph;simp only[go_sem,i82_l3,e0,e1,e8,aL,s100,cS ph,s101];refine lW pc kA (.inl rfl) fun cc bG gl cU=>?_;rcases gl with ⟨e,e2⟩|⟨h,_⟩
   .cases e2;simp only[go_sem];refine sA ?_;simp only[go_sem,i82_l1,i82_r2,e0,e1,e6,e7,e8,zz,w1];exact aw
   exact absurd rfl h
 have:k=10:=aa;subst this;have jl:¬(((10+1:Nat):Int)<=10):=ae;simp only[go_sem,i82_l3,i82_r4,e6,e7,e8,jl];rfl
end
section
variable {F:Nat} {ls:List Let}
theorem YQ(h:cN (F:Int) []=0):F<=40:=by
 unfold cN at h;rw[if_neg ae] at h;by_cases hf:(F:Int)<0\/40<(F:Int)
 .rw[if_pos hf] at h;cases h
 omega
theorem atg(h:cN (F:Int) ls=0)(want:List Int)(lI:want.length<=10)(hw:∀k∈want,wL k):∃ms cs,(ms.length<=8000/\ ∀m∈ms,r5 F ls want m)/\aI S 82 [.one (.p (eB F ls)),.one (.p (.sl (iP want)))] (.tup [.one (aR fT 7 (mP ms)),.one (aR BX 2 cs)]):=by
 by_cases aF:ls=[]
 .subst aF;exact⟨[],[],⟨af,fun m h=>by cases h⟩,atf want lI hw⟩
 obtain⟨G,e,g⟩:=vY h aF;have:F=G:=aa;subst this;exact ath g (gV.2 aF) want lI hw
theorem apW(h:cN (F:Int) ls=0):aI S 74 [eY F ls] (vu (eB F ls) (.int .i64 0)):=by
 by_cases aF:ls=[]
 .subst aF;exact apU (YQ h)
 obtain⟨G,e,g⟩:=vY h aF;have:F=G:=aa;subst this;exact ae6 g
theorem XW(h:cN (F:Int) ls=0)(want:List Int)(lI:want.length<=10)(hw:∀k∈want,wL k):∃ms,(ms.length<=8000/\ ∀m∈ms,r5 F ls want m)/\aI S 52 [eY F ls,.one (.p (.sl (iP want)))] (.tup [.one (aR fT 7 (mP ms)),.one (.p (.int .i64 0))]):=by obtain⟨ms,cs,hm,ps⟩:=atg h want lI hw;have po:=apW h;have lo:S.lone 3328256128=false:=ah;refine⟨ms,hm,?_⟩;refine aY c52 ?_;simp only[go_sem,i52,s74,cX po ia,s82];refine alU ps lo fun c d bG gc gd hb=>?_;simp only[go_sem];exact xD gc
abbrev zS:List Int:=[1,4,6]
theorem arv:∀k∈zS,wL k:=by intro k h;simp only[cM,iO,or_false] at h;unfold wL k5;omega
abbrev JI(m:a7)(b:Bool):RV:=.tup [.agg (m.ps.map .p),.one (.p (.bool b))]
theorem QO(ms:List a7):((mP ms).all fun e=>e.all PV.scalar)=true:=by rw[jf];intro e he;obtain⟨i,_,rfl⟩:=dq.1 he;rfl
abbrev Ro:a7:=⟨0,0,0,0,false,false,0⟩
theorem afM(h:cN (F:Int) ls=0):(∃m,r5 F ls zS m/\(¬aI S 52 [eY F ls,.one (.p (.sl (iP zS)))] (.tup [.one (aR fT 7 []),.one (.p (.int .i64 0))]))/\aI S 31 [eY F ls] (JI m true))\/(aI S 52 [eY F ls,.one (.p (.sl (iP zS)))] (.tup [.one (aR fT 7 []),.one (.p (.int .i64 0))])/\aI S 31 [eY F ls] (JI Ro false)):=by
 obtain⟨ms,⟨_,hm⟩,ps⟩:=XW h zS ae arv;have ps':aI S 52 [eY F ls,.one (.p (.sl [[.int .i64 1],[.int .i64 4],[.int .i64 6]]))] (.tup [.one (aR fT 7 (mP ms)),.one (.p (.int .i64 0))]):=ps;have lo:S.lone 1984064128=false:=ah;cases ms with
 |nil=>
  refine .inr ⟨ps,?_⟩;refine aY c31 ?_;simp only[go_sem,i31,s52];refine O1 ps' lo (QO _) rfl fun c bG gc hb=>?_;have b2:=hb 1984000064 ae;simp only[go_sem] at b2;rcases gc with ⟨_,e2⟩|⟨h,_⟩
  .cases e2;have Lq:(((0:Nat):Int)==0)=true:=ae;simp only[go_sem,Lq,b2];rfl
  exact absurd rfl h
 |cons m r=>
  refine .inl ⟨m,hm m af,(fun h=>by have:=ps.Ag h;simp[aR] at this),?_⟩
  refine aY c31 ?_;simp only[go_sem,i31,s52];refine O1 ps' lo (QO _) rfl fun c bG gc hb=>?_;have b2:=hb 1984000064 ae;simp only[go_sem] at b2;rcases gc with ⟨h,_⟩|⟨_,gg,e2,hC⟩
  .cases h
  cases e2;have hl:(mP (m::r)).length=r.length+1:=by simp[mP]
  have Lq:(((r.length+1:Nat):Int)==0)=false:=by rw[beq_eq_false_iff_ne];omega
  have aw:0<r.length+1:=aa;have hJ:(mP (m::r))[0]?=some m.ps:=rfl;rw[hl];generalize mP (m::r)=es at*;simp only[go_sem,Lq,b2,hC,hJ,aw,a7.ps];rfl
end
theorem alX{Q:dy}{ak:Env}{aj:aq}{os:List bl}{d:Option Nat}{f:Nat}{vs:List V}{s t1 z1 t2 z2:Nat}{rd:List Nat}{es fs:List (List PV)}{x:PV}(hp:aI S f vs (.tup [.agg [.p x,aR t1 z1 es],.one (aR t2 z2 fs)]))(dZ:S.lone s=false)(hx:x.scalar=true)
  (a1:(es.all fun e=>e.all PV.scalar)=true) (a2:(fs.all fun e=>e.all PV.scalar)=true)
  (hK:∀(c e:C) ao,grown (s+1) t1 z1 es (.one c) ao->grown (s+2) t2 z2 fs (.one e) ao->(∀i,i≠s+1->i≠s+2->ao i=aj i)->RN S .all os Q (put ak d (.tup [.agg [.p x,c],.one e])) ao):gP S .all (.pc f vs rd s) d os Q ak aj:=by
 obtain⟨h1,h2,_⟩:=qw (aj:=aj) (s:=s+1) (ty:=t1) (z:=z1) (es:=es);have e0:∀(b b':aq) (k:Nat) (r:RC),b' k=b k->cD b k r=cD b' k r:=by
  intro b b' k r h;cases r with
  |p v=>rfl
  |own ty sz es=>simp only[cD,h]
 have e2:cD aj (s+2) (aR t2 z2 fs)=cD (app (cD aj (s+1) (aR t1 z1 es)).2 aj) (s+2) (aR t2 z2 fs):=e0 _ _ _ _ (h2 (s+2) aa);obtain⟨k1,k2,_⟩:=qw (aj:=app (cD aj (s+1) (aR t1 z1 es)).2 aj) (s:=s+2) (ty:=t2) (z:=z2) (es:=fs);rw[<- e2] at k1 k2;have zi:∀(a b:List eG) (c:aq),app (a++b) c=app b (app a c):=by
  intro a
  induction a with
  |nil=>intro b c;rfl
  |cons x a ih=>intro b c;exact ih b _
 have iK:(RV.tup [.agg [.p x,aR t1 z1 es],.one (aR t2 z2 fs)]).alone=true:=by
  have a:=nI (ty:=t1) (z:=z1) a1;have b:=nI (ty:=t2) (z:=z2) a2;have I4:(RV.one (.p x)).alone=true:=by show(x.scalar&&true)=true;rw[hx];rfl
  skip
  simp only[RV.alone,gk,gI,lk,oG,vD] at a b I4;simp only[RV.alone,gk,kL,gI,jg,fp,jR,lk,oG,vD,a,b,I4]
 refine(cX (v:=.tup [.agg [.p x,(cD aj (s+1) (aR t1 z1 es)).1],.one (cD aj (s+2) (aR t2 z2 fs)).1]) (u:=(cD aj (s+1) (aR t1 z1 es)).2++(cD aj (s+2) (aR t2 z2 fs)).2) hp ?_).2 (hK _ _ _ ?_ ?_ ?_)
 .rw[dZ,sV];unfold land;rw[if_pos (.inr iK)];simp[jm,gk,kL,gI,iU,qB,pM,lN,cD]
 .rw[zi];exact h1.of_eq (k2 (s+1) aa)
 .rw[zi];exact k1
 intro i a b;rw[zi,k2 i b,h2 i a]
theorem afb{s1 t1 z1 s2 t2 z2:Nat}{es fs:List (List PV)}{c d:C}{x:PV}{aj:aq}(hs:s1≠s2)(h:grown s1 t1 z1 es (.one c) aj)(h':grown s2 t2 z2 fs (.one d) aj):iA aj (.tup [.agg [.p x,c],.one d])=some (.tup [.agg [.p x,aR t1 z1 es],.one (aR t2 z2 fs)]):=by obtain⟨c',o,hc,h2,h3⟩:=h.jc;cases hc;obtain⟨d',q,hd,k2,k3⟩:=h'.jc;cases hd;have e1:jc aj (.p x)=some (.p x,[],[]):=rfl;rcases h3 with rfl|rfl<;>rcases k3 with rfl|rfl<;>simp[iA,rK,tD,my,lM,h2,k2,e1,apart,ud,rq,yx,hs]
theorem PQ{aj:aq}{rd:List Nat}{s:Nat}{m:a7}{b:Bool}{l:Bool}:land aj rd s ((JI m b).ig l)=some (.tup [.agg [.p (.int .i64 m.k),.p (.int .i64 m.a),.p (.int .i64 m.b),.p (.int .i64 m.c),.p (.bool m.l),.p (.bool m.o),.p (.int .i64 m.s)],.one (.p (.bool b))],[]):=by cases l<;>(unfold land;rw[if_pos (.inr rfl)];rfl)
def Jr(F:Nat)(L:List Let):Prop:=aI S 52 [eY F L,.one (.p (.sl (iP zS)))] (.tup [.one (aR fT 7 []),.one (.p (.int .i64 0))])
theorem aoK:∀ {A B:List Let},dA A=dA B->A=B:=by
 intro A
 induction A with
 |nil=>intro B h;cases B with
  |nil=>rfl
  |cons _ _=>cases h
 |cons a A ih=>
  intro B h;cases B with
  |nil=>cases h
  |cons b B=>have h:a.ps::dA A=b.ps::dA B:=h;rw[Fh] at h;rw[ih h.2];have h1:=h.1;cases a;cases b;simp only[Let.ps,Fh,PV.int.injEq,PV.bool.injEq,and_true,true_and] at h1;obtain⟨rfl,rfl,rfl,rfl,rfl,rfl⟩:=h1;rfl
theorem arP{A B:List Let}(h:pN F A=pN F B):A=B:=by
 unfold pN at h;simp only[RV.tup.injEq,Fh,RV.agg.injEq,and_true,true_and] at h;unfold aR at h;by_cases hA:dA A=[]
 .by_cases hB:dA B=[]
  .rw[NV.1 hA,NV.1 hB]
  rw[if_pos hA,if_neg hB] at h;cases h
 by_cases hB:dA B=[]
 .rw[if_neg hA,if_pos hB] at h;cases h
 rw[if_neg hA,if_neg hB] at h;simp only[RC.own.injEq,true_and] at h;exact aoK h
theorem QI{L:List Let}{e:Int}(he:e≠0):pN F L≠sX e:=fun h=>by unfold pN sX at h;simp only[RV.tup.injEq,Fh,RV.one.injEq,RC.p.injEq,PV.int.injEq,and_true,true_and] at h;exact he h.2.symm
theorem Yd{ls M:List Let}(aF:ls≠[]){m:a7}(h:uR F ls m.k m.a m.b m.c m.l m.o m.s=pN F M):oL F ls m=some M:=by
 unfold oL;rw[if_neg aF];unfold uR at h;by_cases hA:bt F ls m.k m.a m.b m.c m.l m.o m.s=true
 .rw[if_pos hA] at h ⊢;cases hM:qZ F ls m.k m.a.toNat m.b.toNat m.c.toNat m.l m.o m.s with
  |none=>rw[hM] at h;exact absurd h.symm (QI ae)
  |some L=>
   rw[hM] at h;dsimp only;by_cases hc:(400:Int)<(ls.length:Int)+(mZ m.k).1\/(100:Int)<((ay Let.aC ls/2:Nat):Int)+(mZ m.k).2
   .have e2:y9 F ls m.k (some L)=sX 7:=if_pos hc;rw[e2] at h;exact absurd h.symm (QI ae)
   have e2:y9 F ls m.k (some L)=pN F (mw L):=if_neg hc;rw[e2] at h;rw[if_neg hc,arP h]
 rw[if_neg hA] at h;exact absurd h.symm (QI ae)
structure BG (F:Nat) (ls:List Let) (ms:List a7) (L:List Let):Prop where
 len:L.length+ms.length<=ls.length
 chk:cN (F:Int) L=0
 rep:uc F ls ms=some L
 kind:∀m∈ms,m.k∈zS
def Sq(F:Nat)(ls:List Let)(ms:List a7)(L:List Let)(c:C)(aj:aq):Prop:=(c=.p (cP L)/\ms=[]/\L=ls)\/grown 1664320129 lK 6 (dA L) (.one c) aj
theorem Sq.snap{ls L:List Let}{ms:List a7}{c:C}{aj:aq}(h:Sq F ls ms L c aj):∃r,∀B:aq,B 1664320129=aj 1664320129->Go.Abs.snap B eL c=some (cP L,r):=by
 rcases h with ⟨rfl,_,_⟩|h
 .exact⟨[],fun B _=>rfl⟩
 obtain⟨r,h1,_⟩:=h.Dj;exact⟨r,h1⟩
theorem BG.step{ls L:List Let}{ms:List a7}{m:a7}(h:BG F ls ms L)(h4:ls.length<=400)(hm:r5 F L zS m):∃M,aI S 46 [eY F L,GG m] (pN F M)/\BG F ls (ms++[m]) M:=by
 have aF:L≠[]:=by obtain⟨_,⟨a,ha,_⟩,_⟩:=hm;intro e;rw[e] at ha;exact absurd ha (qE a)
 obtain⟨G,e,g⟩:=vY h.chk aF;have:F=G:=aa;subst this;have hk:m.k=1\/m.k=4\/m.k=6:=by
  have:=hm.1
  simpa using this
 obtain⟨M,ha,hc,aw,_,_⟩:=aj5 g hm hk;have zB:k5 m.k:=by unfold k5;omega
 have pa:=Ye g zB m.a m.b m.c m.l m.o m.s;rw[ha] at pa;have hl:=h.len;refine⟨M,pa,⟨by rw[dX];simp only[cq,dN];omega,hc,by rw[afQ m h.rep];exact Yd aF ha,fun x hx=>?_⟩⟩;rcases eF.1 hx with h1|h1
 .exact h.kind x h1
 rw[mR.1 h1];exact hm.1
theorem BG.start{ls:List Let}(h:cN (F:Int) ls=0):BG F ls [] ls:=⟨aX _,h,rfl,fun m h=>(by cases h)⟩
def WS(F:Nat)(ls:List Let)(ms:List a7)(M:List Let)(r:RV):Prop:=(ms=[]/\M=ls/\r=.tup [.agg [.p (.int .i64 F),.p (cP ls)],.one (.p .nils)])\/r=.tup [.agg [.p (.int .i64 F),aR lK 6 (dA M)],.one (aR fT 7 (mP ms))]
theorem ary{ls:List Let}(qQ:cN (F:Int) ls=0)(hlen:ls.length<=400):∃r,(∃ms M,BG F ls ms M/\Jr F M/\WS F ls ms M r)/\aI S 26 [eY F ls] r:=by
 have kA:S.lone 1664320128=false:=ah;have red:∀L,cN (F:Int) L=0->∃m b,aI S 31 [eY F L] (JI m b)/\(b=true->r5 F L zS m)/\(b=false->Jr F L):=by
  intro L h;rcases afM h with ⟨m,h1,_,h2⟩|⟨h1,h2⟩
  .exact⟨m,true,h2,fun _=>h1,fun h=>(by cases h)⟩
  exact⟨Ro,false,h2,fun h=>(by cases h),fun _=>h1⟩
 refine Fp rfl c26 (gY rfl) ?_;obtain⟨m0,b0,pr0,k1,k2⟩:=red ls qQ;simp only[go_sem,i26,s31,cX pr0 PQ];refine cV (fun k ak aj=>∃L ms c d m b gm idm,(idm=1664128320\/idm=1664512000)/\ak 1=.one (.bk 1664000000 1 0)/\ak 2=.one (.bk 1664000064 1 0)/\aj 1664000064=(1,some (.var [.p (.int .i64 0),.p .nils]))/\ak 6=.one (.p (.bool b))/\ak 4=.one d/\ak 5=.one (.bk idm gm 0)/\aj idm=(gm,some (.var (m.ps.map .p)))/\aj 1664000000=(1,some (.var [.p (.int .i64 F),c]))/\Sq F ls ms L c aj/\grown 1664384192 fT 7 (mP ms) (.one d) aj/\ms.length=k/\BG F ls ms L/\(b=true->r5 F L zS m)/\(b=false->Jr F L)) 0 ls.length (bd _) ?_ ?_
 .simp only[go_sem];refine⟨ls,[],.p (cP ls),.p .nils,m0,b0,1,1664128320,.inl rfl,?_⟩;exact⟨rfl,rfl,rfl,rfl,rfl,.inl ⟨rfl,rfl,rfl⟩,grown.nil,rfl,BG.start qQ,k1,k2⟩
 rintro k ak aj hk ⟨L,ms,c,d,m,b,gm,idm,hid,h1,h2,bZ,h6,h4,h5,bm,b0,hc,gp,wD,hR,au,dz⟩
 rcases hid with rfl|rfl
 .have hcB:=hc;obtain⟨rd,l6⟩:=hcB.snap;simp only[a7.ps,dG,kE] at bm;cases b with
  |false=>
   simp only[go_sem,i26_l1,i26_r2,h1,h2,h4,h6,b0,bZ];rcases hc with ⟨rfl,rfl,rfl⟩|gc
   .rcases gp with ⟨_,e2⟩|⟨aF,_⟩
    .cases e2;exact⟨_,⟨[],_,hR,dz rfl,.inl ⟨rfl,rfl,rfl⟩⟩,rfl⟩
    exact absurd rfl aF
   exact⟨_,⟨ms,L,hR,dz rfl,.inr rfl⟩,afb ae (gc.of_eq (aP ae)) (gp.of_eq (aP ae))⟩
  |true=>
   obtain⟨M,pa,F3⟩:=hR.step hlen (au rfl);obtain⟨m2,b2,pr2,k1,k2⟩:=red M F3.chk;have am3:=hR.len;simp only[go_sem,i26_l1,h1,h5,h6,bm,b0,l6,s46];refine abH pa kA rfl rfl (JM _) fun cc bG gc hb=>?_;have q0:=hb 1664000000 ae;have q1:=hb 1664128320 ae;have q2:=hb 1664000064 ae;simp only[go_sem,b0,bm,bZ] at q0 q1 q2;have F0:=gp.of_eq (hb 1664384192 ae);simp only[go_sem,h1,h4,h5,q0,q1];refine qN (xs:=[a7.ps m]) (F0.of_eq (by simp only[aM,Nat.reduceEqDiff,if_false])) (by simp only[ez,aM,if_true];rfl) (.inl rfl) (by simp only[nY,cq,dN];omega) fun d2 aZ gp2 aV=>?_
   have r0:=aV 1664000000 ae ae;have r1:=aV 1664128320 ae ae;have r2:=aV 1664000064 ae ae;simp only[go_sem,q0,q1,q2] at r0 r1 r2;have rO:grown 1664320129 lK 6 (dA M) (.one cc) aZ:=(show grown 1664320129 lK 6 (dA M) (.one cc) bG from gc).of_eq ((aV 1664320129 ae ae).trans (by simp only[aM,Nat.reduceEqDiff,if_false]));obtain⟨rd2,eh,_⟩:=rO.Dj;simp only[go_sem,h1,h2,h4,h5,h6,r0,r1,r2,eh,s31,cX pr2 PQ];have mH:=F3.len;rw[dX] at mH
   simp only[cq,dN] at mH;refine⟨aa,M,ms++[m],cc,d2,m2,b2,_,1664512000,.inr rfl,rfl,rfl,rfl,if_pos rfl,rfl,.inr (rO.of_eq (by simp only[aM,Nat.reduceEqDiff,if_false])),?_,by simp[wD],F3,k1,k2⟩;rw[show mP (ms++[m])=mP ms++[a7.ps m] by simp[mP]];exact gp2.of_eq (by simp only[aM,Nat.reduceEqDiff,if_false])
 have hcB:=hc;obtain⟨rd,l6⟩:=hcB.snap;simp only[a7.ps,dG,kE] at bm;cases b with
 |false=>
  simp only[go_sem,i26_l1,i26_r2,h1,h2,h4,h6,b0,bZ];rcases hc with ⟨rfl,rfl,rfl⟩|gc
  .rcases gp with ⟨_,e2⟩|⟨aF,_⟩
   .cases e2;exact⟨_,⟨[],_,hR,dz rfl,.inl ⟨rfl,rfl,rfl⟩⟩,rfl⟩
   exact absurd rfl aF
  exact⟨_,⟨ms,L,hR,dz rfl,.inr rfl⟩,afb ae (gc.of_eq (aP ae)) (gp.of_eq (aP ae))⟩
 |true=>
  obtain⟨M,pa,F3⟩:=hR.step hlen (au rfl);obtain⟨m2,b2,pr2,k1,k2⟩:=red M F3.chk;have am3:=hR.len;simp only[go_sem,i26_l1,h1,h5,h6,bm,b0,l6,s46];refine abH pa kA rfl rfl (JM _) fun cc bG gc hb=>?_;have q0:=hb 1664000000 ae;have q1:=hb 1664512000 ae;have q2:=hb 1664000064 ae;simp only[go_sem,b0,bm,bZ] at q0 q1 q2;have F0:=gp.of_eq (hb 1664384192 ae);simp only[go_sem,h1,h4,h5,q0,q1];refine qN (xs:=[a7.ps m]) (F0.of_eq (by simp only[aM,Nat.reduceEqDiff,if_false])) (by simp only[ez,aM,if_true];rfl) (.inl rfl) (by simp only[nY,cq,dN];omega) fun d2 aZ gp2 aV=>?_
  have r0:=aV 1664000000 ae ae;have r1:=aV 1664512000 ae ae;have r2:=aV 1664000064 ae ae;simp only[go_sem,q0,q1,q2] at r0 r1 r2;have rO:grown 1664320129 lK 6 (dA M) (.one cc) aZ:=(show grown 1664320129 lK 6 (dA M) (.one cc) bG from gc).of_eq ((aV 1664320129 ae ae).trans (by simp only[aM,Nat.reduceEqDiff,if_false]));obtain⟨rd2,eh,_⟩:=rO.Dj;simp only[go_sem,h1,h2,h4,h5,h6,r0,r1,r2,eh,s31,cX pr2 PQ];have mH:=F3.len;rw[dX] at mH
  simp only[cq,dN] at mH;refine⟨aa,M,ms++[m],cc,d2,m2,b2,_,1664512000,.inr rfl,rfl,rfl,rfl,if_pos rfl,rfl,.inr (rO.of_eq (by simp only[aM,Nat.reduceEqDiff,if_false])),?_,by simp[wD],F3,k1,k2⟩;rw[show mP (ms++[m])=mP ms++[a7.ps m] by simp[mP]];exact gp2.of_eq (by simp only[aM,Nat.reduceEqDiff,if_false])
end
end Go.Abs
