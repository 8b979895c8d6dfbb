/- A part. -/
import Derived.Test.YtfohniicngjeoaaGreatDoorUe
import Derived.Test.YtfohniicngjeoaaGreatDoorRa
set_option linter.all false
set_option maxRecDepth 100000
set_option maxHeartbeats 16000000
namespace Go.Abs
section
variable{F:Nat}
def Gs(q:Pc->Bool):Prop:=∀p p':Pc,p.l.kind=p'.l.kind->q p=q p'
theorem Ve{q:Pc->Bool}(l:List Pc)(drop:Nat->Pc->Bool):(pz l drop).countP q<=l.countP q:=by
 have key:∀k,k<=l.length->(tK l drop k).countP q<=(l.take k).countP q:=by
  intro k
  induction k with
  |zero=>intro _;exact bN _
  |succ k ih=>
   intro hk;obtain⟨p,hp⟩:=aL (ls:=l) (k:=k) aa;have:=ih aa;rw[pP,hp,vF];cases hd:drop k p
   .rw[I1 hp hd,vF];exact Nat.add_le_add_right this _
   rw[AM hp hd];omega
 have:=key l.length (bN _);rwa[kS] at this
theorem Vw{q:Pc->Bool}(hq:Gs q){f:Pc->Pc}(hf:∀p,(f p).l.kind=p.l.kind)(l:List Pc):(l.map f).countP q=l.countP q:=by rw[Dc];exact List.countP_congr fun p _=>by rw[Function.comp_apply,hq _ _ (hf p)]
theorem apX(g ab b:Int)(p:Pc):(rY g ab b p).l.kind=p.l.kind:=by unfold rY;split<;>rfl
theorem ac3(ids:List Int)(p:Pc):(rR ids p).l.kind=p.l.kind:=by unfold rR;split<;>rfl
section
variable {F:Nat} {ls:List Let}
theorem afm(g:dF F ls){q:Pc->Bool}:∀(es:List Nat) (l:List Pc),l.length=ls.length->(∀e∈es,e<ls.length)->(iW ls l es).countP q=l.countP q:=by
 intro es
 induction es with
 |nil=>intro l _ _;rfl
 |cons e es ih=>intro l hl he;show(iW ls (ir ls l e) es).countP q=_;rw[ih _ (by rw[GP,hl]) fun e h=>he e (by simp[h]),JH hl (he e af) (VG g (he e af))]
theorem aeS{q:Pc->Bool}(hq:Gs q)(l:List Pc)(i:Nat)(r:Int):(jY l i r).countP q=l.countP q:=by
 by_cases h:i<l.length
 .obtain⟨p,hp⟩:=aL h;exact V8 hp fun p=>hq _ _ rfl
 unfold jY;rw[List.set_eq_of_length_le aa]
def k5 (k:Int):Prop:=k=1\/k=3\/k=4\/k=6\/k=8
theorem Pv(g:dF F ls){q:Pc->Bool}(hq:Gs q){k:Int}(hk:k5 k){a b c:Nat}{l o:Bool}{sg:Int}(ha:a<ls.length)(hb:b<ls.length\/(k≠3/\k≠8))(hc:c<ls.length\/k≠8){L:List Pc}(h:tN F ls k a b c l o sg=some L):L.countP q<=(pieces ls).countP q:=by
 have cA:=fW ls;rcases hk with rfl|rfl|rfl|rfl|rfl
 .have h:zL ls a=some L:=h;unfold zL at h;simp only at h;split at h
  .cases h;show(List.map _ _).countP q<=_;rw[Vw hq (apX _ _ _)];exact Ve (q:=q) (pieces ls) _
  cases h
 .have h:zN F ls a b=some L:=h;unfold zN at h;split at h
  .cases h;rw[afm g _ _ (by rw[Bd,Bd,cA]) (by
    intro e he;simp only[cP,jz,or_false] at he;rcases he with rfl|rfl
    .exact ha
    rcases hb with hb|hb
    .exact hb
    exact absurd rfl hb.1),aeS hq,aeS hq]
   exact bN _
  cases h
 .have h:AO ls a=some L:=h;unfold AO at h;simp only at h;split at h
  .cases h;show(List.map _ _).countP q<=_;rw[Vw hq (ac3 _)];exact Ve (q:=q) (pieces ls) _
  cases h
 .have h:A1 F ls a b=some L:=h;unfold A1 at h;split at h
  .cases h;show(List.map _ _).countP q<=_;rw[Vw hq (ac3 _)];exact Ve (q:=q) (pieces ls) _
  cases h
 have h:xY F ls a b c=some L:=h;unfold xY at h;split at h
 .cases h;rw[afm g _ _ cA (by
   intro e he;simp only[cP,jz,or_false] at he;rcases he with rfl|rfl|rfl
   .exact ha
   .rcases hb with hb|hb
    .exact hb
    exact absurd rfl hb.2
   rcases hc with hc|hc
   .exact hc
   exact absurd rfl hc)]
  exact bN _
 cases h
theorem do5(g:dF F ls){k:Int}(hk:k5 k)(a b c:Int)(l o:Bool)(sg:Int):aI S 75 [.one (.p (eI F ls)),lZ k a b c l o sg] (vK F ls k a b c l o sg):=by
 have pa:=agD (F:=F) (ls:=ls) (a:=a) (b:=b) (c:=c) (l:=l) (o:=o) (sg:=sg) k;have hlen:=g.len;have fv:=g.cr;unfold vK;cases hA:bJ F ls k a b c l o sg with
 |false=>rw[hA] at pa;exact aix pa
 |true=>
  rw[hA] at pa;rw[if_pos rfl];have hL:∀L,tN F ls k a.toNat b.toNat c.toNat l o sg=some L->L.length<=1000000:=fun L h=>by have:=anC h;omega
  have ne:=g.ne;have lI:¬ls.length=0:=by have:=iX.2 ne;omega
  unfold bJ at hA;by_cases h1:k=1
  .subst h1;simp only[Int.reduceEq,if_true,if_false,or_false,or_self] at hA;simp only[cX,pL,beq_iff_eq] at hA;obtain⟨rfl,rfl,rfl,hx,rfl,rfl⟩:=hA;obtain⟨av,rfl,ha⟩:=rQ hx;simp only[tY] at hL ⊢;exact KP hlen fv (k:=1) rfl ae ah pa (agV g ha) hL
  by_cases h3:k=3
  .subst h3;simp only[Int.reduceEq,if_true,if_false,or_false,or_self] at hA;simp only[cX,pL,beq_iff_eq,decide_eq_true_eq] at hA;obtain⟨rfl,rfl,rfl,hx,rfl,hy,ay⟩:=hA;obtain⟨av,rfl,ha⟩:=rQ hx;obtain⟨bv,rfl,hb⟩:=rQ hy;simp only[tY] at hL ⊢;exact KP hlen fv (k:=3) rfl ae ah pa (ag0 g ha hb) hL
  by_cases h4:k=4
  .subst h4;simp only[Int.reduceEq,if_true,if_false,or_false,or_true,or_self] at hA;simp only[cX,pL,beq_iff_eq] at hA;obtain⟨rfl,rfl,rfl,hx,rfl,rfl⟩:=hA;obtain⟨av,rfl,ha⟩:=rQ hx;simp only[tY] at hL ⊢;exact KP hlen fv (k:=4) rfl ae ah pa (amW g ha) hL
  by_cases h6:k=6
  .subst h6;simp only[Int.reduceEq,if_true,if_false,or_true,or_self] at hA;simp only[cX,pL,beq_iff_eq,decide_eq_true_eq] at hA;obtain⟨rfl,rfl,rfl,hx,rfl,hy,ay⟩:=hA;obtain⟨av,rfl,ha⟩:=rQ hx;obtain⟨bv,rfl,hb⟩:=rQ hy;simp only[tY] at hL ⊢;exact KP hlen fv (k:=6) rfl ae ah pa (an0 g ha hb) hL
  by_cases h8:k=8
  .subst h8;simp only[Int.reduceEq,if_true,if_false,or_self] at hA;simp only[cX,pL,beq_iff_eq,decide_eq_true_eq] at hA;obtain⟨rfl,rfl,rfl,hx,hy,hz,_,_⟩:=hA;obtain⟨av,rfl,ha⟩:=rQ hx;obtain⟨bv,rfl,hb⟩:=rQ hy;obtain⟨cv,rfl,hc⟩:=rQ hz;simp only[tY] at hL ⊢;exact KP hlen fv (k:=8) rfl ae ah pa (arJ g ha hb hc) hL
  exact absurd hk (by rintro (h|h|h|h|h)<;>contradiction)
theorem Xf(g:dF F ls){k:Int}(hk:k5 k)(a b c:Int)(l o:Bool)(sg:Int):aI S 47 [dX F ls,lZ k a b c l o sg] (vK F ls k a b c l o sg):=agA (adO g) (do5 g hk a b c l o sg) agw
theorem Ra(g:dF F ls){k:Int}(hk:k5 k)(a b c:Int)(l o:Bool)(sg:Int):(∃e,e≠0/\vK F ls k a b c l o sg=uI e)\/ ∃M,vK F ls k a b c l o sg=rX F M/\cU F M=0/\bJ F ls k a b c l o sg=true/\ ∃L,tN F ls k a.toNat b.toNat c.toNat l o sg=some L/\M=qF L:=by
 unfold vK;cases hA:bJ F ls k a b c l o sg
 .exact .inl ⟨2,ae,rfl⟩
 rw[if_pos rfl];cases hm:tN F ls k a.toNat b.toNat c.toNat l o sg with
 |none=>exact .inl ⟨4,ae,rfl⟩
 |some L=>
  unfold zT;by_cases rH:(400:Int)<(ls.length:Int)+(nz k).1\/(100:Int)<((aw Let.aB ls/2:Nat):Int)+(nz k).2
  .exact .inl ⟨7,ae,if_pos rH⟩
  refine .inr ⟨qF L,if_neg rH,?_,rfl,L,rfl,rfl⟩;have hlen:=g.len;have fv:=g.cr;have hF:=g.fing;have ne:=g.ne;have lI:¬ls.length=0:=by have:=iX.2 ne;omega
  have dY:aw Let.aB ls%2=0:=by have:=g.cz.ev;rwa[jL] at this
  have cA:=fW ls;have kT:Gs (fun _=>true):=fun _ _ _=>rfl;have kC:Gs (fun p=>p.l.aB):=fun p p' h=>by show(p.l.kind==2)=(p'.l.kind==2);rw[h]
  have pC:(pieces ls).countP (fun p=>p.l.aB)=aw Let.aB ls:=by rw[<- PS (ls:=ls) Let.aB];show _=List.countP _ (List.map _ _);rw[Dc];rfl
  have lC:aw Let.aB (L.map Pc.l)=L.countP (fun p=>p.l.aB):=by show List.countP _ (List.map _ _)=_;rw[Dc];rfl
  have tT:∀l:List Pc,l.countP (fun _=>true)=l.length:=fun l=>af;have fin:L=[]\/Cert F L->(∀ {av bv cv:Nat},a=(av:Int)->b=(bv:Int)->c=(cv:Int)->av<ls.length->(bv<ls.length\/(k≠3/\k≠8))->(cv<ls.length\/k≠8)->cU F (qF L)=0):=by
   intro hc av bv cv e1 e2 e3 ha hb vZ;subst e1 e2 e3;simp only[tY] at hm;have c1:=Pv g kT hk ha hb vZ hm;have c2:=Pv g kC hk ha hb vZ hm;rw[tT,tT,cA] at c1;rw[pC] at c2;rcases hc with rfl|hc
   .unfold cU;have:qF []=[]:=rfl;rw[this];rw[if_neg (by simp[aw]),if_neg aa,if_pos rfl]
   exact hc.check aa (by rw[lC];omega) hF
  unfold bJ at hA;by_cases h1:k=1
  .subst h1;simp only[Int.reduceEq,if_true,if_false,or_false,or_self] at hA;simp only[cX,pL,beq_iff_eq] at hA;obtain⟨rfl,rfl,rfl,hx,rfl,rfl⟩:=hA;obtain⟨av,rfl,ha⟩:=rQ hx;exact fin (ahF g ha (by simpa [tN] using hm)) rfl (bv:=0) rfl (cv:=0) rfl ha (.inr ⟨ae,ae⟩) (.inr ae)
  by_cases h3:k=3
  .subst h3;simp only[Int.reduceEq,if_true,if_false,or_false,or_self] at hA;simp only[cX,pL,beq_iff_eq,decide_eq_true_eq] at hA;obtain⟨rfl,rfl,rfl,hx,rfl,hy,ay⟩:=hA;obtain⟨av,rfl,ha⟩:=rQ hx;obtain⟨bv,rfl,hb⟩:=rQ hy;exact fin (.inr (ahG g ha hb aa (by simpa [tN] using hm))) rfl rfl (cv:=0) rfl ha (.inl hb) (.inr ae)
  by_cases h4:k=4
  .subst h4;simp only[Int.reduceEq,if_true,if_false,or_false,or_true,or_self] at hA;simp only[cX,pL,beq_iff_eq] at hA;obtain⟨rfl,rfl,rfl,hx,rfl,rfl⟩:=hA;obtain⟨av,rfl,ha⟩:=rQ hx;exact fin (.inr (ahH g ha (by simpa [tN] using hm))) rfl (bv:=0) rfl (cv:=0) rfl ha (.inr ⟨ae,ae⟩) (.inr ae)
  by_cases h6:k=6
  .subst h6;simp only[Int.reduceEq,if_true,if_false,or_true,or_self] at hA;simp only[cX,pL,beq_iff_eq,decide_eq_true_eq] at hA;obtain⟨rfl,rfl,rfl,hx,rfl,hy,ay⟩:=hA;obtain⟨av,rfl,ha⟩:=rQ hx;obtain⟨bv,rfl,hb⟩:=rQ hy;exact fin (.inr (ahI g ha hb (by simpa [tN] using hm))) rfl rfl (cv:=0) rfl ha (.inr ⟨ae,ae⟩) (.inr ae)
  by_cases h8:k=8
  .subst h8;simp only[Int.reduceEq,if_true,if_false,or_self] at hA;simp only[cX,pL,beq_iff_eq,decide_eq_true_eq] at hA;obtain⟨rfl,rfl,rfl,hx,hy,hz,_,_⟩:=hA;obtain⟨av,rfl,ha⟩:=rQ hx;obtain⟨bv,rfl,hb⟩:=rQ hy;obtain⟨cv,rfl,hc⟩:=rQ hz;exact fin (.inr (ahJ g ha hb hc (by simpa [tN] using hm))) rfl rfl rfl ha (.inl hb) (.inl hc)
  exact absurd hk (by rintro (h|h|h|h|h)<;>contradiction)
end
def AX(x y:bd):Bool:=decide (x.b<y.b)||(decide (x.b=y.b)&&decide (x.c<y.c))
def CW(m:bd):Prop:=(0<=m.b/\m.b<=1000000)/\0<=m.c/\m.c<=1000000
theorem Wm:Swo AX:=⟨fun a b h=>by unfold AX at*;simp at*;omega,fun a b c h k=>by unfold AX at*;simp at*;omega⟩
theorem ahW(x y:bd)(hx:CW x)(hy:CW y):∃n:Int,aI S 150 [Gy x,Gy y] (ri n)/\(decide (n<0)=AX x y):=by
 obtain⟨⟨x1,x2⟩,x3,x4⟩:=hx;obtain⟨⟨y1,y2⟩,y3,y4⟩:=hy;have w1:IntKind.i64.wrap (x.b-y.b)=x.b-y.b:=vE aa aa;have w2:IntKind.i64.wrap (x.c-y.c)=x.c-y.c:=vE aa aa;cases hb:(x.b==y.b) with
 |true=>
  have e:x.b=y.b:=eq_of_beq hb;refine⟨x.c-y.c,?_,?_⟩
  .refine aZ c150 ?_;simp only[go_sem,i150,bne,hb,w2]
  unfold AX;rw[Bool.eq_iff_iff];simp;omega
 |false=>
  have e:¬x.b=y.b:=by simpa using hb
  refine⟨x.b-y.b,?_,?_⟩
  .refine aZ c150 ?_;simp only[go_sem,i150,bne,hb,w1]
  unfold AX;rw[Bool.eq_iff_iff];simp;omega
abbrev mP(o:List bd):List (List PV):=o.map bd.ps
theorem ac5(o:List bd)(k:Nat)(v:bd):(mP o).set k v.ps=mP (o.set k v):=by simp[List.map_set]
theorem oz(o:List bd):(mP o).length=o.length:=cM _
def JC(id g ty:Nat)(es:List bd)(aj:aA)(v:V)(ao:aA):Prop:=v=.tup []/\(∃ws:List bd,ao id=(g,some (.arr ty 7 (mP ws)))/\ws.Perm es/\yt AX ws 0 ws.length)/\Kept (· =id) aj ao
abbrev Dy:V:=.one (.p (.fn 150 [] []))
theorem alX{al:Al}{aj:aA}{id g ty:Nat}{es:List bd}(o:al.ok id=true)(hl:es.length<=1000000)(Aw:∀m∈es,CW m)(hC:aj id=(g,some (.arr ty 7 (mP es)))):
  ∃v ao,iK S 192 [.one (.hsl id g 7 0 es.length),vi 0,vi es.length,Dy] al aj v ao/\JC id g ty es aj v ao:=by
 have scm:S.shared 150=false:=ah;refine mF c192 (iv rfl) ?_;have w0:IntKind.i64.wrap (0+1)=((0+1:Nat):Int):=ae;simp only[go_sem,i192];refine cV (fun k ak ao=>ak 0=.one (.hsl id g 7 0 es.length)/\ak 1=vi 0/\ak 2=vi es.length/\ak 3=Dy/\ak 8=vi ((k+1:Nat):Int)/\ ∃zs:List bd,ao id=(g,some (.arr ty 7 (mP zs)))/\zs.Perm es/\yt AX zs 0 (k+1)/\Kept (· =id) aj ao) 0 es.length (bG _) ?_ ?_
 .simp only[go_sem];exact⟨rfl,es,hC,.refl _,fun p q x y _ h1 h2=>aa,Kept.refl _ _⟩
 rintro k ak bK hk ⟨h0,h1,h2,h3,h6,zs,hZ,hp,hs,dd⟩
 have mr:=hp.length_eq;by_cases ay:k+1<es.length
 .have aJ:((k+1:Nat):Int)<(es.length:Int):=aa;obtain⟨x,hx⟩:=aL (ls:=zs) (k:=k+1) aa;have sx:CW x:=Aw x (hp.mem_iff.1 (aU hx));simp only[go_sem,i192_l3,h2,h6,aJ];refine cV (fun q ak ao=>ak 0=.one (.hsl id g 7 0 es.length)/\ak 1=vi 0/\ak 2=vi es.length/\ak 3=Dy/\ak 8=vi ((k+1:Nat):Int)/\ak 9=vi ((k+1-q:Nat):Int)/\ ∃ws:List bd,ao id=(g,some (.arr ty 7 (mP ws)))/\yq AX zs ws x 0 (k+1) (k+1-q)/\Kept (· =id) aj ao) 0 (k+1) (bG _) ?_ ?_
  .simp only[go_sem,h0,h1,h2,h3,h6];exact⟨zs,hZ,yq.start (bG _) hx hs,dd⟩
  rintro q cT bh hq ⟨k0,k1,k2,k3,k6,k7,ws,hW,hI,F5⟩
  have lL:ws.length=es.length:=hI.perm.length_eq.trans mr;have wk:IntKind.i64.wrap (((k+1:Nat):Int)+1)=((k+1+1:Nat):Int):=cn (n:=k+1) aa;by_cases hj0:k+1-q=0
  .have e7:¬((0:Int)<((k+1-q:Nat):Int)):=aa;simp only[go_sem,i192_l1,i192_r2,k0,k1,k2,k3,k6,k7,e7,wk];refine⟨aG,aa,ws,hW,hI.perm.trans hp,hI.stop Wm (.inl hj0),F5⟩
  obtain⟨j,hj⟩:∃j,k+1-q=j+1:=⟨k-q,aa⟩;have e7:((0:Int)<((j+1:Nat):Int)):=aa;obtain⟨y,hy⟩:=aL (ls:=ws) (k:=j) aa;have sy:CW y:=Aw y ((hI.perm.trans hp).mem_iff.1 (aU hy));rw[hj] at hI k7;have wj:IntKind.i64.wrap (((j+1:Nat):Int)-1)=(j:Int):=by rw[ye aa];omega
  have Ay:=I8 hI.at';have CB:=I8 hy;have j1:j+1<es.length:=by have:=hI.le;omega
  have j2:j<es.length:=aa;obtain⟨n,pl,hn⟩:=ahW x y sx sy;cases lf:AX x y with
  |false=>
   rw[lf] at hn;have Ei:¬(n<0):=by simpa using hn
   simp only[go_sem,i192_l1,i192_r2,k0,k1,k2,k3,k6,k7,e7,wk,wj,hW,Ay,CB,bd.ps,j1,j2,o,scm,NT pl,Ei];refine⟨aG,aa,ws,rfl,hI.perm.trans hp,hI.stop Wm (.inr ⟨y,aa,hy,lf⟩),F5⟩
  |true=>
   rw[lf] at hn;have Ei:n<0:=by simpa using hn
   have vW:=hI.step Wm (bG _) hy lf;have hjj:¬(j+1=j):=aa;have l1:j+1<ws.length:=aa;have l2:j<ws.length:=aa;simp only[go_sem,i192_l1,i192_r2,k0,k1,k2,k3,k6,k7,e7,wj,hW,Ay,CB,bd.ps,j1,j2,l1,hjj,o,scm,NT pl,Ei,pN,oz];have Ml:k+1-(q+1)=j:=aa;refine⟨aG,aG,aa,by rw[Ml],(ws.set (j+1) y).set j x,by rw[<- ac5,<- ac5];rfl,by rw[Ml];exact vW,(F5.dK rfl _).dK rfl _⟩
 have aJ:¬(((k+1:Nat):Int)<(es.length:Int)):=aa;simp only[go_sem,i192_l3,h2,h6,aJ];exact⟨rfl,⟨zs,hZ,hp,hs.mono (.inl aa)⟩,dd⟩
theorem aoe{al:Al}{aj:aA}{id g ty:Nat}{es:List bd}(o:al.ok id=true)(f1:al.fs.contains 192=true)(hl:es.length<=12)(Aw:∀m∈es,CW m)(hC:aj id=(g,some (.arr ty 7 (mP es))))(lim:Int):
  ∃v ao,iK S 173 [.one (.hsl id g 7 0 es.length),vi 0,vi es.length,vi lim,Dy] al aj v ao/\JC id g ty es aj v ao:=by
 refine mF c173 (iv rfl) ?_;have w0:IntKind.i64.wrap ((es.length:Int)-0)=(es.length:Int):=by rw[Int.sub_zero];exact vE aa aa
 have jD:(es.length:Int)<=12:=aa;simp only[go_sem,i173];refine rj ?_;simp only[go_sem,i173_l1,w0,jD,s192];refine zZ hC (by rfl) (.inr ⟨o,by rw[show S.sites 192=[192] by kernel_rfl];simp only[mB,pM,f1,wN]⟩) (P:=JC id g ty es aj) (fun qy h1 _=>alX h1 aa Aw hC) fun v ao hP=>?_;obtain⟨rfl,h2⟩:=hP;simp only[go_sem];exact⟨rfl,h2⟩
theorem aqX{al:Al}{aj:aA}{id g ty:Nat}{es:List bd}(o:al.ok id=true)(f1:(S.sites 173).all al.fs.contains=true)(hl:es.length<=12)(Aw:∀m∈es,CW m)(hC:aj id=(g,some (.arr ty 7 (mP es)))):
  ∃v ao,iK S 149 [.one (.hsl id g 7 0 es.length),Dy] al aj v ao/\JC id g ty es aj v ao:=by
 obtain⟨k,pb⟩:=Rk es.length aa;have wu:IntKind.u64.wrap (es.length:Int)=(es.length:Int):=by
  have e:IntKind.u64.wrap (es.length:Int)=(es.length:Int)%18446744073709551616:=by unfold IntKind.wrap;rfl
  rw[e];omega
 refine mF c149 (iv rfl) ?_;have sbl:S.shared 147=false:=ah;simp only[go_sem,i149,wu,sbl,FK pb,s173];refine zZ hC (by rfl) (.inr ⟨o,f1⟩) (P:=JC id g ty es aj) (fun qy h1 h2=>aoe h1 (by rw[h2];kernel_rfl) hl Aw hC k) fun v ao hP=>?_;obtain⟨rfl,h2⟩:=hP;simp only[go_sem];exact⟨rfl,h2⟩
theorem alQ(o:List Int)(x:Int)(hl:o.length<=1000000):aI S 118 [.one (.p (.sl (iP o))),vi x] (ri (match (List.range o.length).find? (nZ o x) with|some k=>(k:Int)|none=> -1)):=by
 refine aZ c118 ?_;simp only[go_sem,i118];refine cV (fun k ak aj=>ak 0=.one (.p (.sl (iP o)))/\ak 1=vi x/\ak 7=vi o.length/\ak 8=vi k/\ ∀j,j<k->nZ o x j=false) 0 o.length (bG _) ?_ ?_
 .simp only[go_sem];exact⟨rfl,fun j hj=>absurd hj (qY j)⟩
 rintro k ak aj hk ⟨h0,h1,h7,h8,hn⟩
 by_cases ay:k<o.length
 .have aJ:((k:Int)<(o.length:Int)):=aa;obtain⟨y,hy⟩:=aL ay;have iS:=AL hy;have w1:=cn (n:=k) aa;have qN:nZ o x k=(y==x):=by simp[nZ,hy]
  cases hb:(y==x) with
  |true=>
   have oX:(x==y)=true:=by have:=beq_iff_eq.1 hb;simp[this]
   rw[hb] at qN;have hf:=B0 (p:=nZ o x) ay hn qN;simp only[go_sem,i118_l1,h0,h1,h7,h8,aJ,iS,oX,hf]
  |false=>
   have oX:(x==y)=false:=by
    have:¬y=x:=by simpa using hb
    simp;exact fun h=>this h.symm
   rw[hb] at qN;have Ei:∀j,j<k+1->nZ o x j=false:=fun j hj=>by
    rcases mY.1 hj with h|rfl
    .exact hn j h
    exact qN
   simp only[go_sem,i118_l1,h0,h1,h7,h8,ay,aJ,iS,oX,w1];exact Ei
 have:k=o.length:=aa;subst this;have hf:=HZ (p:=nZ o x) hn;simp only[go_sem,i118_l1,i118_r2,h7,h8,eE,hf]
theorem Yb(o:List Int)(x:Int)(hl:o.length<=1000000):aI S 98 [.one (.p (.sl (iP o))),vi x] (rb (o.contains x)):=by
 have pi:=alQ o x hl;refine aZ c98 ?_;cases hm:o.contains x with
 |true=>
  have we:x∈o:=by simpa using hm
  obtain⟨k,hk⟩:=jZ we;have dU:=(aW.1 hk).1;cases hf:(List.range o.length).find? (nZ o x) with
  |none=>have:=Ha.1 hf k (gj.2 dU);simp[nZ,hk] at this
  |some j=>rw[hf] at pi;have uw:(0:Int)<=(j:Int):=aa;simp only[go_sem,i98,s118,eJ pi,uw]
 |false=>
  have we:x∉o:=by simpa using hm
  cases hf:(List.range o.length).find? (nZ o x) with
  |some j=>
   have h1:=Kc hf;unfold nZ at h1;cases ho:o[j]? with
   |none=>rw[ho] at h1;cases h1
   |some y=>
    rw[ho] at h1;have:y=x:=by simpa using h1
    subst this;exact absurd (aU ho) we
  |none=>rw[hf] at pi;have uw:¬(0:Int)<= -1:=ae;simp only[go_sem,i98,s118,eJ pi,uw]
def meq(a b:bd):Bool:=(a.k==b.k)&&((a.a==b.a)&&((a.b==b.b)&&((a.c==b.c)&&((a.l==b.l)&&((a.o==b.o)&&(a.s==b.s))))))
theorem aiW(x y:bd):ui [true,true,true,true,false,false,true] [.p (.int .i64 x.k),.p (.int .i64 x.a),.p (.int .i64 x.b),.p (.int .i64 x.c),.p (.bool x.l),.p (.bool x.o),.p (.int .i64 x.s)] [.p (.int .i64 y.k),.p (.int .i64 y.a),.p (.int .i64 y.b),.p (.int .i64 y.c),.p (.bool y.l),.p (.bool y.o),.p (.int .i64 y.s)]=some (meq x y):=by
 have e:∀a b:Int,tq true (.int .i64 a) (.int .i64 b)=some (a==b):=fun a b=>by simp[tq]
 have e2:∀a b:Bool,tq false (.bool a) (.bool b)=some (a==b):=fun a b=>by simp[tq]
 simp only[ui,meq,e,e2];cases (x.k==y.k)<;>cases (x.a==y.a)<;>cases (x.b==y.b)<;>cases (x.c==y.c)<;>cases (x.l==y.l)<;>cases (x.o==y.o)<;>cases (x.s==y.s)<;>rfl
theorem alR(ms:List bd)(x:bd)(hm:ms.length<=1000000):∃i:Int,aI S 172 [.one (.p (.sl (mP ms))),Gy x] (ri i):=by
 have:∃r,isN r/\aI S 172 [.one (.p (.sl (mP ms))),Gy x] r:=by
  refine Hn rfl c172 (iv rfl) ?_;simp only[go_sem,i172];refine cV (fun k ak aj=>ak 0=.one (.p (.sl (mP ms)))/\ak 3=.one (.aY 11008000000 1 0)/\aj 11008000000=(1,some (.var [.p (.int .i64 x.k),.p (.int .i64 x.a),.p (.int .i64 x.b),.p (.int .i64 x.c),.p (.bool x.l),.p (.bool x.o),.p (.int .i64 x.s)]))/\ak 7=vi ms.length/\ak 8=vi k) 0 ms.length (bG _) ?_ ?_
  .simp only[go_sem];first|done|rfl|exact⟨rfl,rfl⟩|exact⟨rfl,rfl,rfl⟩
  rintro k ak aj hk ⟨h0,h3,hB,h7,h8⟩
  by_cases ay:k<ms.length
  .have aJ:((k:Int)<(ms.length:Int)):=aa;obtain⟨m,qM⟩:=aL ay;have Eh:=I8 qM;have w1:=cn (n:=k) aa;have he:=aiW x m;cases hb:meq x m with
   |true=>rw[hb] at he;simp only[go_sem,i172_l1,h0,h3,hB,h7,h8,aJ,Eh,bd.ps,he];exact⟨aG,_,⟨_,rfl⟩,rfl⟩
   |false=>rw[hb] at he;simp only[go_sem,i172_l1,h0,h3,hB,h7,h8,ay,aJ,Eh,bd.ps,w1,he];exact aG
  have:k=ms.length:=aa;subst this;simp only[go_sem,i172_l1,i172_r2,h7,h8,eE];exact⟨_,⟨_,rfl⟩,rfl⟩
 obtain⟨_,⟨i,rfl⟩,h⟩:=this;exact⟨i,h⟩
theorem Yc(ms:List bd)(x:bd)(hm:ms.length<=1000000):∃b,aI S 148 [.one (.p (.sl (mP ms))),Gy x] (rb b):=by obtain⟨i,pi⟩:=alR ms x hm;refine⟨decide (0<=i),?_⟩;refine aZ c148 ?_;simp only[go_sem,i148,s172,eJ pi]
abbrev gC:Nat:=55
abbrev edT:Nat:=3
def MV(k:Int)(av:Nat)(m:bd):Prop:=m.k=k/\m.a=(av:Int)/\m.l=false/\m.o=false/\m.s=0/\CW m
theorem lI2{l:List Int}(h:l.length=2):∃a b,l=[a,b]:=by
 match l,h with
 |[a,b],_=>exact⟨a,b,rfl⟩
theorem lI3{l:List Int}(h:l.length=3):∃a b c,l=[a,b,c]:=by
 match l,h with
 |[a,b,c],_=>exact⟨a,b,c,rfl⟩
def Jd(aj:aA)(v:V)(ao:aA):Prop:=v=.tup []/\ao=aj
theorem Ur{Q:dA}{al:Al}{ak:Env}{aj:aA}{os:List aO}{d:Option Nat}{f:Nat}{vs:List V}{P:V->aA->Prop}(qP:(vs.map (jm aj)).flatten=[])(hh:al=.all\/(S.sites f).all al.fs.contains=true)
  (h:∀qy,qy.fs=S.sites f->∃v ao,iK S f vs qy aj v ao/\P v ao) (hK:∀v ao,P v ao->RN S al os Q (put ak d v) ao):gP S al (.sc f vs) d os Q ak aj:=by
 refine rC (P:=P) ?_ (h _ rfl) hK;rcases hh with rfl|h2
 .rfl
 refine holds_of ?_ h2;show al.fD (vs.map (jm aj)).flatten=true;rw[qP];rfl
theorem alW{al:Al}{aj:aA}:∃v ao,iK S 192 [.one (.p .nils),vi 0,vi 0,Dy] al aj v ao/\Jd aj v ao:=by refine mF c192 (iv rfl) ?_;have w0:IntKind.i64.wrap 1=1:=ae;have hz:¬((1:Int)<0):=ae;simp only[go_sem,i192];refine rj ?_;simp only[go_sem,i192_l3,w0,hz];first|done|exact⟨rfl,rfl⟩|trace_state
theorem aod{al:Al}{aj:aA}(f1:al.fs.contains 192=true)(lim:Int):∃v ao,iK S 173 [.one (.p .nils),vi 0,vi 0,vi lim,Dy] al aj v ao/\Jd aj v ao:=by refine mF c173 (iv rfl) ?_;have w0:IntKind.i64.wrap (0-0)=0:=ae;have jD:((0:Int)<=12):=ae;simp only[go_sem,i173];refine rj ?_;simp only[go_sem,i173_l1,w0,jD,s192];refine Ur (by rfl) (.inr (by rw[show S.sites 192=[192] by kernel_rfl];simp only[mB,pM,f1,wN])) (P:=Jd aj) (fun qy _=>alW) fun v ao hP=>?_;obtain⟨rfl,h2⟩:=hP;simp only[go_sem];exact⟨rfl,h2⟩
theorem aqW{al:Al}{aj:aA}(f1:(S.sites 173).all al.fs.contains=true):∃v ao,iK S 149 [.one (.p .nils),Dy] al aj v ao/\Jd aj v ao:=by obtain⟨k,pb⟩:=Rk 0 aa;have wu:IntKind.u64.wrap ((0:Nat):Int)=((0:Nat):Int):=ae;refine mF c149 (iv rfl) ?_;have sbl:S.shared 147=false:=ah;simp only[go_sem,i149,wu,sbl,FK pb,s173];refine Ur (by rfl) (.inr f1) (P:=Jd aj) (fun qy h2=>aod (by rw[h2];kernel_rfl) k) fun v ao hP=>?_;obtain⟨rfl,h2⟩:=hP;simp only[go_sem];exact⟨rfl,h2⟩
theorem ah8{ls:List Let}(g:dF F ls)(kk:Int){av:Nat}(ha:av<ls.length):∃ms:List bd,(ms.length<=2/\ ∀m∈ms,MV kk av m)/\aI S 122 [.one (.p (eI F ls)),vi kk,vi av] (.one (aT gC 7 (mP ms))):=by
 have hlen:=g.len;have hN:nD ls<=1600:=by have:=vL ls ls.length;unfold nD;have:(aF ls).length<=ls.length:=vL ls ls.length;omega
 suffices h:∃r,(∃ms:List bd,(ms.length<=2/\ ∀m∈ms,MV kk av m)/\r=.one (aT gC 7 (mP ms)))/\aI S 122 [.one (.p (eI F ls)),vi kk,vi av] r by obtain⟨r,⟨ms,h1,rfl⟩,h2⟩:=h;exact⟨ms,h1,h2⟩
 refine Hn rfl c122 (iv rfl) ?_;simp only[go_sem,i122];refine cV (fun k ak aj=>ak 0=.one (.p (eI F ls))/\ak 1=vi kk/\ak 2=vi av/\ak 14=vi k/\ ∃ms c,ms.length<=k/\(∀m∈ms,MV kk av m)/\ak 7=.one c/\grown 7809280192 gC 7 (mP ms) (.one c) aj) 0 2 (bG _) ?_ ?_
 .simp only[go_sem];exact⟨rfl,[],.p .nils,bN _,fun m h=>(by cases h),rfl,grown.nil⟩
 rintro k ak aj hk ⟨h0,h1,h2,mg,ms,c,xK,au,h7,gm⟩
 by_cases ay:k<2
 .have aJ:((k:Int)<2):=aa;obtain⟨j,hj1,mM,Ai⟩:=Ua g (d:=2*av+k) aa;have UJ:=aU mM;have Co:=j9 hj1;have F0:=Ud mM;have m2:=tX (a:=av) aa;have m3:=wrap_add (a:=2*av) (b:=k) aa;have w1:=cn (n:=k) aa;have hdl:2*av+k<(ow F ls).length:=by rw[Vq];omega
  have hdd:=Ub UJ;have akB:=Uc g.ok UJ;obtain⟨_,_,hdm,_⟩:=ZV (F:=F) (ls:=ls) (d:=2*av+k) aa;generalize hfe:tv F ls (2*av+k)=f at*;simp only[go_sem,i122_l4,h0,h2,mg,aJ,m2,m3,Co,F0,Fc.ps];refine⟨aG,?_⟩;obtain⟨g9,hg9⟩:∃g9,(aj 7808321024).fst+1=g9:=⟨_,rfl⟩;rw[hg9]
  refine cV (fun q cT bh=>cT 0=.one (.p (eI F ls))/\cT 1=vi kk/\cT 2=vi av/\cT 14=vi k/\cT 7=.one c/\grown 7809280192 gC 7 (mP ms) (.one c) bh/\cT 9=.one (.aY 7808321024 g9 0)/\bh 7808321024=(g9,some (.var (f.ps.map .p)))/\cT 34=.one (.p (.sl (nP f.dp)))/\cT 35=vi f.dp.length/\cT 36=vi q/\(0<q->f.dp.length<=3)/\ ∃zs ce,zs.length=q/\(∀z∈zs,0<=z/\z<=1000000)/\cT 10=.one ce/\grown 7808704256 edT 1 (iP zs) (.one ce) bh) 0 f.dp.length (bG _) ?_ ?_
  .have gm':grown 7809280192 gC 7 (mP ms) (.one c) (dK (dK aj 7808321024 (g9,some (Ob.var [C.p (PV.bool false),C.p PV.nils,C.p PV.nils,C.p PV.nils,C.p (PV.bool false)]))) 7808321024 (g9,some (Ob.var (f.ps.map .p)))):=gm.of_eq ((aS ae).trans (aS ae));simp only[go_sem,h0,h1,h2,h7,mg,Fc.ps] at gm' ⊢;refine⟨gm',rfl,fun h=>h.elim,[],.p .nils,rfl,fun z h=>(by cases h),rfl,grown.nil⟩
  rintro q cT bh hq ⟨p0,p1,p2,vt,p7,FL,p9,b9,EJ,MX,MY,h3,zs,ce,mr,hzb,CL,gz⟩
  simp only[Fc.ps,dS,kQ] at b9;by_cases sN:q<f.dp.length
  .have UU:((q:Int)<(f.dp.length:Int)):=aa;obtain⟨d,hd⟩:=aL sN;have kY:=j9 hd;have hdb:=hdd d (aU hd);have wq:=wrap_small (n:=d/2) aa;have w2:=cn (n:=q) aa;by_cases c1:d/2<av
   .have c1':(((d/2:Nat):Int)<(av:Int)):=aa;simp only[go_sem,i122_l1,i122_r3,p0,p1,p2,vt,p7,p9,CL,EJ,MX,MY,b9,sN,UU,kY,ez,fE,wq,c1',w1,ay];exact⟨ms,c,aa,au,rfl,FL⟩
   have c1':¬(((d/2:Nat):Int)<(av:Int)):=aa;by_cases c2:3<f.dp.length
   .have c2':((3:Int)<(f.dp.length:Int)):=aa;simp only[go_sem,i122_l1,i122_r3,p0,p1,p2,vt,p7,p9,CL,EJ,MX,MY,b9,sN,UU,kY,ez,fE,wq,c1',c2',w1,ay];exact⟨ms,c,aa,au,rfl,FL⟩
   have c2':¬((3:Int)<(f.dp.length:Int)):=aa;simp only[go_sem,i122_l1,p2,p9,CL,EJ,MX,MY,b9,UU,kY,ez,fE,wq,c1',c2'];refine um (xs:=[[.int .i64 ((d/2:Nat):Int)]]) (gz.of_eq (aS ae)) (by simp only[fF,aN,if_true];rfl) (.inl rfl) (by simp only[wy,dh,ff];omega) fun c2 gT gz2 hb=>?_;have q9:=hb 7808321024 ae ae;have yL:=FL.of_eq ((hb 7809280192 ae ae).trans (aS ae));simp only[go_sem,b9] at q9;simp only[go_sem,p0,p1,p2,vt,p7,p9,EJ,MX,MY,q9,w2,Fc.ps];refine⟨sN,yL,fun _=>aa,zs++[((d/2:Nat):Int)],c2,by simp;omega,fun z hz=>?_,rfl,?_⟩
   .rcases fg.1 hz with h|h
    .exact hzb z h
    have:=pO.1 h;omega
   rw[show iP (zs++[((d/2:Nat):Int)])=iP zs++[[.int .i64 ((d/2:Nat):Int)]] by simp[iP]];exact gz2
  have:q=f.dp.length:=aa;subst this;have akD:0<f.dp.length:=Nw hdm;have qH:=h3 akD;rcases gz with ⟨e,_⟩|⟨_,gg,e,bz⟩
  .have hz0:(iP zs).length=0:=by rw[e];rfl
   rw[wy] at hz0;omega
  cases e;have sS:S.shared 139=true:=ah;simp only[go_sem,i122_l1,i122_r2,CL,MX,MY,eE,sS,wy];refine zZ bz (by rfl) (.inl rfl) (P:=EU tM 7808704256 gg edT zs bh) (fun qy h1 h2=>Wi h1 (by rw[h2];kernel_rfl) aa bz) fun v gT hP=>?_;obtain⟨rfl,⟨ws,bw,pw,sw⟩,kw⟩:=hP;have yL:=FL.of_eq (kw 7809280192 ae);have lL:=pw.length_eq;have hwb:∀z∈ws,0<=z/\z<=1000000:=fun z hz=>hzb z (pw.mem_iff.1 hz);rw[mr] at lL;clear sw pw hzb b9 bz;clear h3 sN hdd akB UJ hdm hq;generalize f.dp.length=n at*;have s120:S.shared 148=false:=ah;have zw:(((2:Nat):Int)==2)=true:=ae;have q12:(((1:Nat):Int)==2)=false:=ae;have q32:(((3:Nat):Int)==2)=false:=ae;have q13:(((1:Nat):Int)==3)=false:=ae;have tS:(((2:Nat):Int)==3)=false:=ae
  have q33:(((3:Nat):Int)==3)=true:=ae;rcases(by omega:n=1\/n=2\/n=3) with rfl|rfl|rfl
  .simp only[go_sem,i122_r3,p0,p1,p2,vt,p7,CL,mr,q12,q13,w1,ay];exact⟨ms,c,aa,au,rfl,yL.of_eq ((aS ae).trans (aS ae))⟩
  .obtain⟨y0,y1,rfl⟩:=lI2 lL;by_cases h8:kk=8
   .have e8:(kk !=8)=false:=by rw[h8];rfl
    simp only[go_sem,i122_r3,p0,p1,p2,vt,p7,CL,mr,zw,tS,e8,w1,ay];exact⟨ms,c,aa,au,rfl,yL.of_eq ((aS ae).trans (aS ae))⟩
   have e8:(kk !=8)=true:=by simpa using h8
   simp only[go_sem,i122_r3,p1,p2,p7,CL,mr,zw,e8,bw];obtain⟨bb,pcv⟩:=Yc ms ⟨kk,av,y1,0,false,false,0⟩ aa;have VM:aI S 148 [.one (.p (.sl (mP ms))),.agg [.p (.int .i64 kk),.p (.int .i64 av),.p (.int .i64 y1),.p (.int .i64 0),.p (.bool false),.p (.bool false),.p (.int .i64 0)]] (rb bb):=pcv;obtain⟨r,snB,hr⟩:=yL.ET;simp only[go_sem,s120,snB,cY VM];cases bb with
   |true=>simp only[go_sem,p0,p1,p2,vt,p7,w1,ay];exact⟨ms,c,aa,au,rfl,yL.of_eq (by simp only[aN,Nat.reduceEqDiff,if_false])⟩
   |false=>
    simp only[go_sem,p7];refine um (xs:=[bd.ps ⟨kk,av,y1,0,false,false,0⟩]) (yL.of_eq (by simp only[aN,Nat.reduceEqDiff,if_false])) (by simp only[fF,aN,if_true];rfl) (.inl rfl) (by simp only[oz,dh,ff];omega) fun c2 je yM kI=>?_;simp only[go_sem,p0,p1,p2,vt,w1,ay];refine⟨ms++[⟨kk,av,y1,0,false,false,0⟩],c2,by simp;omega,fun m hm=>?_,rfl,by rw[show mP (ms++[⟨kk,av,y1,0,false,false,0⟩])=mP ms++[bd.ps ⟨kk,av,y1,0,false,false,0⟩] by simp[mP]];exact yM⟩;rcases fg.1 hm with h|h
    .exact au m h
    have:=pO.1 h;subst this;exact⟨rfl,rfl,rfl,rfl,rfl,hwb y1 af,af⟩
  obtain⟨y0,y1,y2,rfl⟩:=lI3 lL;by_cases h8:kk=8
  .have e8:(kk==8)=true:=by rw[h8];rfl
   simp only[go_sem,i122_r3,p1,p2,p7,CL,mr,q32,q33,e8,bw];obtain⟨bb,pcv⟩:=Yc ms ⟨kk,av,y1,y2,false,false,0⟩ aa;have VM:aI S 148 [.one (.p (.sl (mP ms))),.agg [.p (.int .i64 kk),.p (.int .i64 av),.p (.int .i64 y1),.p (.int .i64 y2),.p (.bool false),.p (.bool false),.p (.int .i64 0)]] (rb bb):=pcv;obtain⟨r,snB,hr⟩:=yL.ET;refine⟨aG,?_⟩;simp only[go_sem,s120,snB,cY VM];cases bb with
   |true=>simp only[go_sem,p0,p1,p2,vt,p7,w1,ay];exact⟨ms,c,aa,au,rfl,yL.of_eq (by simp only[aN,Nat.reduceEqDiff,if_false])⟩
   |false=>
    simp only[go_sem,p7];refine um (xs:=[bd.ps ⟨kk,av,y1,y2,false,false,0⟩]) (yL.of_eq (by simp only[aN,Nat.reduceEqDiff,if_false])) (by simp only[fF,aN,if_true];rfl) (.inl rfl) (by simp only[oz,dh,ff];omega) fun c2 je yM kI=>?_;simp only[go_sem,p0,p1,p2,vt,w1,ay];refine⟨ms++[⟨kk,av,y1,y2,false,false,0⟩],c2,by simp;omega,fun m hm=>?_,rfl,by rw[show mP (ms++[⟨kk,av,y1,y2,false,false,0⟩])=mP ms++[bd.ps ⟨kk,av,y1,y2,false,false,0⟩] by simp[mP]];exact yM⟩;rcases fg.1 hm with h|h
    .exact au m h
    have:=pO.1 h;subst this;exact⟨rfl,rfl,rfl,rfl,rfl,hwb y1 af,hwb y2 af⟩
  have e8:(kk==8)=false:=by simpa using h8
  simp only[go_sem,i122_r3,p0,p1,p2,vt,p7,CL,mr,q32,q33,e8,w1,ay];exact⟨ms,c,aa,au,rfl,yL.of_eq ((aS ae).trans (aS ae))⟩
 have:k=2:=aa;subst this;have uw:¬(((2:Nat):Int)<2):=ae;have sS:S.shared 149=true:=ah;simp only[go_sem,i122_l4,i122_r5,h7,mg,uw,sS];rcases gm with ⟨e,e2⟩|⟨aH,gg,e2,bm⟩
 .cases e2;have:ms=[]:=by simpa [mP] using e
  subst this;refine Ur (by rfl) (.inl rfl) (P:=Jd aj) (fun qy h2=>aqW (by rw[h2];kernel_rfl)) fun v gT hP=>?_;obtain⟨rfl,rfl⟩:=hP;simp only[go_sem,h7];exact⟨_,⟨[],⟨af,fun m h=>by cases h⟩,rfl⟩,rfl⟩
 cases e2;rw[oz] at h7 ⊢;refine zZ bm (by rfl) (.inl rfl) (P:=JC 7809280192 gg gC ms aj) (fun qy h1 h2=>aqX h1 (by rw[h2];kernel_rfl) aa (fun m hm=>(au m hm).2.2.2.2.2) bm) fun v gT hP=>?_;obtain⟨rfl,⟨ws,bw,pw,sw⟩,kw⟩:=hP;simp only[go_sem,h7];have lL:=pw.length_eq;refine⟨_,⟨ws,⟨aa,fun m hm=>au m (pw.mem_iff.1 hm)⟩,rfl⟩,?_⟩;rw[<- lL,<- oz ws];refine yN (.inr ⟨fun e=>aH ?_,gg,rfl,bw⟩);have h0:(mP ws).length=0:=by rw[e];rfl
 rw[oz,lL] at h0;rw[E0.1 h0];rfl
def A0(k:Int)(n:Nat)(m:bd):Prop:= ∃a,a<n/\MV k a m
theorem VH{k:Int}{n a:Nat}{ms ns:List bd}(h:∀m∈ms,A0 k n m)(h2:∀m∈ns,MV k a m)(ha:a<n):∀m∈ms++ns,A0 k n m:=fun m hm=>(fg.1 hm).elim (h m) fun h3=>⟨a,ha,h2 m h3⟩
section
variable {F:Nat} {ls:List Let}
theorem ahy(g:dF F ls)(aH:0<ls.length){kk:Int}(d2:(kk==2)=false)(d5:(kk==5)=false)(d7:(kk==7)=false)(d3:(kk==3)=false)(d6:(kk==6)=false)(d8:(kk==8)=false):∃ms:List bd,(ms.length<=2*ls.length/\ ∀m∈ms,A0 kk ls.length m)/\aI S 99 [.one (.p (eI F ls)),vi kk] (.one (aT gC 7 (mP ms))):=by
 have hlen:=g.len;have cA:(dN (pieces ls)).length=ls.length:=by rw[dN,cM,fW]
 have iM:(((ls.length:Nat):Int)==0)=false:=by rw[beq_eq_false_iff_ne];omega
 suffices h:∃r,(∃ms:List bd,(ms.length<=2*ls.length/\ ∀m∈ms,A0 kk ls.length m)/\r=.one (aT gC 7 (mP ms)))/\aI S 99 [.one (.p (eI F ls)),vi kk] r by obtain⟨r,⟨ms,h1,rfl⟩,h2⟩:=h;exact⟨ms,h1,h2⟩
 refine Hn rfl c99 (iv rfl) ?_;simp only[go_sem,i99,i99_r12,cA,iM];refine cV (fun k ak aj=>ak 0=.one (.p (eI F ls))/\ak 1=vi kk/\ak 41=vi ls.length/\ak 42=vi k/\ ∃ms c,ms.length<=2*k/\(∀m∈ms,A0 kk ls.length m)/\ak 5=.one c/\grown 6336768320 gC 7 (mP ms) (.one c) aj) 0 ls.length (bG _) ?_ ?_
 .simp only[go_sem];exact⟨rfl,[],.p .nils,af,fun m h=>(by cases h),rfl,grown.nil⟩
 rintro k ak aj hk ⟨h0,h1,yP,tB,ms,c,xK,au,h5,gm⟩
 by_cases ay:k<ls.length
 .have aJ:((k:Int)<(ls.length:Int)):=aa;have w1:=cn (n:=k) aa;simp only[go_sem,i99_l10,i99_r9,h1,yP,tB,h5,aJ,d2,d5,d7,d3,d6,d8];refine um (xs:=[bd.ps ⟨kk,k,0,0,false,false,0⟩]) (gm.of_eq (by simp only[aN,Nat.reduceEqDiff,if_false])) (by simp only[fF,aN,if_true];rfl) (.inl rfl) (by simp only[oz,dh,ff];omega) fun c2 je yM kI=>?_;simp only[go_sem,h0,h1,yP,tB,w1,ay];refine⟨ms++[⟨kk,k,0,0,false,false,0⟩],c2,by simp;omega,fun m hm=>?_,rfl,by rw[show mP (ms++[⟨kk,k,0,0,false,false,0⟩])=mP ms++[bd.ps ⟨kk,k,0,0,false,false,0⟩] by simp[mP]];exact yM⟩;rcases fg.1 hm with h|h
  .exact au m h
  have:=pO.1 h;subst this;exact⟨k,ay,rfl,rfl,rfl,rfl,rfl,by simp[CW]⟩
 have:k=ls.length:=aa;subst this;simp only[go_sem,i99_l10,i99_r11,yP,tB,h5,eE];exact⟨_,⟨ms,⟨xK,au⟩,rfl⟩,yN gm⟩
theorem ahx(g:dF F ls)(aH:0<ls.length){kk:Int}(u7:kk=3\/kk=6\/kk=8):∃ms:List bd,(ms.length<=2*ls.length/\ ∀m∈ms,A0 kk ls.length m)/\aI S 99 [.one (.p (eI F ls)),vi kk] (.one (aT gC 7 (mP ms))):=by
 have hlen:=g.len;have lo:S.lone 6338944256=false:=ah;have cA:(dN (pieces ls)).length=ls.length:=by rw[dN,cM,fW]
 have iM:(((ls.length:Nat):Int)==0)=false:=by rw[beq_eq_false_iff_ne];omega
 suffices h:∃r,(∃ms:List bd,(ms.length<=2*ls.length/\ ∀m∈ms,A0 kk ls.length m)/\r=.one (aT gC 7 (mP ms)))/\aI S 99 [.one (.p (eI F ls)),vi kk] r by obtain⟨r,⟨ms,h1,rfl⟩,h2⟩:=h;exact⟨ms,h1,h2⟩
 have d2:(kk==2)=false:=by rw[beq_eq_false_iff_ne];omega
 have d5:(kk==5)=false:=by rw[beq_eq_false_iff_ne];omega
 have d7:(kk==7)=false:=by rw[beq_eq_false_iff_ne];omega
 refine Hn rfl c99 (iv rfl) ?_;simp only[go_sem,i99,i99_r12,cA,iM];refine cV (fun k ak aj=>ak 0=.one (.p (eI F ls))/\ak 1=vi kk/\ak 41=vi ls.length/\ak 42=vi k/\ ∃ms c,ms.length<=2*k/\(∀m∈ms,A0 kk ls.length m)/\ak 5=.one c/\grown 6338944320 gC 7 (mP ms) (.one c) aj) 0 ls.length (bG _) ?_ ?_
 .simp only[go_sem];exact⟨rfl,[],.p .nils,af,fun m h=>(by cases h),rfl,grown.nil⟩
 rintro k ak aj hk ⟨h0,h1,yP,tB,ms,c,xK,au,h5,gm⟩
 by_cases ay:k<ls.length
 .have aJ:((k:Int)<(ls.length:Int)):=aa;have w1:=cn (n:=k) aa;obtain⟨ns,⟨sJ,Mb⟩,pc⟩:=ah8 g kk ay;cases d3:(kk==3) with
  |true=>simp only[go_sem,i99_l10,i99_r9,h0,h1,yP,tB,h5,aJ,d2,d5,d7,d3,s122];refine rB pc lo (.inl rfl) fun cc bK gl cD=>?_;have Cb:=gm.of_eq (cD 6338944320 ae);obtain⟨r,hx,hr⟩:=gl.elems;simp only[go_sem];refine um (xs:=mP ns) Cb hx gl.ie (by simp only[oz];omega) fun c2 je yM kI=>?_;simp only[go_sem,h0,h1,yP,tB,w1,ay];exact⟨ms++ns,c2,by simp;omega,VH au Mb ay,rfl,by rw[show mP (ms++ns)=mP ms++mP ns by simp[mP]];exact yM⟩
  |false=>
   cases d6:(kk==6) with
   |true=>simp only[go_sem,i99_l10,i99_r9,h0,h1,yP,tB,h5,aJ,d2,d5,d7,d3,d6,s122];refine rB pc lo (.inl rfl) fun cc bK gl cD=>?_;have Cb:=gm.of_eq (cD 6338944320 ae);obtain⟨r,hx,hr⟩:=gl.elems;simp only[go_sem];refine um (xs:=mP ns) Cb hx gl.ie (by simp only[oz];omega) fun c2 je yM kI=>?_;simp only[go_sem,h0,h1,yP,tB,w1,ay];exact⟨ms++ns,c2,by simp;omega,VH au Mb ay,rfl,by rw[show mP (ms++ns)=mP ms++mP ns by simp[mP]];exact yM⟩
   |false=>
    have d8:(kk==8)=true:=by
     rcases u7 with rfl|rfl|rfl
     .cases d3
     .cases d6
     rfl
    simp only[go_sem,i99_l10,i99_r9,h0,h1,yP,tB,h5,aJ,d2,d5,d7,d3,d6,d8,s122];refine rB pc lo (.inl rfl) fun cc bK gl cD=>?_;have Cb:=gm.of_eq (cD 6338944320 ae);obtain⟨r,hx,hr⟩:=gl.elems;simp only[go_sem];refine um (xs:=mP ns) Cb hx gl.ie (by simp only[oz];omega) fun c2 je yM kI=>?_;simp only[go_sem,h0,h1,yP,tB,w1,ay];exact⟨ms++ns,c2,by simp;omega,VH au Mb ay,rfl,by rw[show mP (ms++ns)=mP ms++mP ns by simp[mP]];exact yM⟩
 have:k=ls.length:=aa;subst this;simp only[go_sem,i99_l10,i99_r11,yP,tB,h5,eE];exact⟨_,⟨ms,⟨xK,au⟩,rfl⟩,yN gm⟩
end
abbrev BO:Nat:=24
theorem asn{a:PV}{id g z o l:Nat}:Bj [[.p a,.hsl id g z o l]]=none:=rfl
theorem aiJ{aj:aA}{s g ty sd td zd:Nat}{x:Int}{cd:C}{D:List (List PV)}(hb:aj s=(g,some (.iN ty 2 [[.p (.int .i64 x),cd]])))(gd:grown sd td zd D (.one cd) aj):
  ∃fr,fF aj (.one (.hsl s g 2 0 1))=some ([[.int .i64 x,.sl D]],[s],fr)/\nK aj fr/\(fr=[]\/fr=[sd]):=by
 obtain⟨r1,n1,a1,q1⟩:=gd.Qp;refine⟨r1,?_,a1,q1⟩;simp only[fF,hb];simp[collect,n1,Qs,PV.norm]
abbrev wA(k:Int):Prop:=k5 k
def rU(F:Nat)(ls:List Let)(want:List Int)(m:bd):Prop:=m.k∈want/\A0 m.k ls.length m/\ ∃M,vK F ls m.k m.a m.b m.c m.l m.o m.s=rX F M
section
variable {F:Nat} {ls:List Let}
theorem ahA(g:dF F ls)(aH:0<ls.length){kk:Int}(h:wA kk):∃ms:List bd,(ms.length<=2*ls.length/\ ∀m∈ms,A0 kk ls.length m)/\aI S 99 [.one (.p (eI F ls)),vi kk] (.one (aT gC 7 (mP ms))):=by
 have n2:kk≠2:=by unfold wA k5 at h;omega
 have n5:kk≠5:=by unfold wA k5 at h;omega
 have n7:kk≠7:=by unfold wA k5 at h;omega
 by_cases hc:kk=3\/kk=6\/kk=8
 .exact ahx g aH hc
 exact ahy g aH (beq_eq_false_iff_ne.2 n2) (beq_eq_false_iff_ne.2 n5) (beq_eq_false_iff_ne.2 n7) (beq_eq_false_iff_ne.2 fun e=>hc (.inl e)) (beq_eq_false_iff_ne.2 fun e=>hc (.inr (.inl e))) (beq_eq_false_iff_ne.2 fun e=>hc (.inr (.inr e)))
theorem aqV(g:dF F ls)(aH:0<ls.length)(want:List Int)(lL:want.length<=10)(hw:∀k∈want,wA k):∃ms cs,(ms.length<=8000/\ ∀m∈ms,rU F ls want m)/\aI S 78 [.one (.p (eI F ls)),.one (.p (.sl (iP want)))] (.tup [.one (aT gC 7 (mP ms)),.one (aT BO 2 cs)]):=by
 have hlen:=g.len;have lY:S.lone 4992448128=false:=ah;have vn:S.lone 4992640128=false:=ah
 suffices h:∃r,(∃ms cs,(ms.length<=8000/\ ∀m∈ms,rU F ls want m)/\r=.tup [.one (aT gC 7 (mP ms)),.one (aT BO 2 cs)])/\aI S 78 [.one (.p (eI F ls)),.one (.p (.sl (iP want)))] r by obtain⟨r,⟨ms,cs,h1,rfl⟩,h2⟩:=h;exact⟨ms,cs,h1,h2⟩
 refine Hn rfl c78 (iv rfl) ?_;simp only[go_sem,i78];refine cV (fun k ak aj=>ak 0=.one (.p (eI F ls))/\ak 1=.one (.p (.sl (iP want)))/\ak 8=vi ((k+1:Nat):Int)/\ ∃ms cs c d,ms.length<=800*k/\cs.length<=800*k/\(∀m∈ms,rU F ls want m)/\ak 6=.one c/\ak 7=.one d/\grown 4992768192 gC 7 (mP ms) (.one c) aj/\grown 4992768448 BO 2 cs (.one d) aj) 0 10 (bG _) ?_ ?_
 .simp only[go_sem];exact⟨rfl,[],[],.p .nils,.p .nils,af,af,fun m h=>(by cases h),rfl,rfl,grown.nil,grown.nil⟩
 rintro k ak aj hk ⟨e0,e1,e8,ms,cs,c,d,xK,de,au,e6,e7,gm,gc⟩
 by_cases ay:k<10
 .have aJ:((k+1:Nat):Int)<=10:=aa;have w1:=cn (n:=k+1) aa;have ph:=Yb want ((k+1:Nat):Int) aa;cases hc:want.contains ((k+1:Nat):Int) with
  |false=>rw[hc] at ph;simp only[go_sem,i78_l3,i78_r2,e0,e1,e6,e7,e8,aJ,s98,cY ph,w1];exact⟨ay,ms,cs,c,d,aa,aa,au,rfl,rfl,gm,gc⟩
  |true=>
   have oY:((k+1:Nat):Int)∈want:=by simpa using hc
   obtain⟨ns,⟨sJ,Mb⟩,pc⟩:=ahA g aH (hw _ oY);rw[hc] at ph;simp only[go_sem,i78_l3,e0,e1,e8,aJ,s98,cY ph,s99];refine rB pc lY (.inl rfl) fun cc bK gl cD=>?_;have Cb:=gm.of_eq (cD 4992768192 ae);have gc1:=gc.of_eq (cD 4992768448 ae);rcases gl with ⟨e,e2⟩|⟨_,gg,e,pY⟩
   .cases e2;simp only[go_sem];refine rj ?_;simp only[go_sem,i78_l1,i78_r2,e0,e1,e6,e7,e8,zz,w1];exact⟨ay,ms,cs,c,d,aa,aa,au,rfl,rfl,Cb,gc1⟩
   cases e;rw[oz];simp only[go_sem];refine cV (fun j ak aj=>ak 0=.one (.p (eI F ls))/\ak 1=.one (.p (.sl (iP want)))/\ak 8=vi ((k+1:Nat):Int)/\ak 23=.one (.hsl 4992448128 gg 7 0 ns.length)/\ak 24=vi ns.length/\ak 25=vi j/\aj 4992448128=(gg,some (.arr gC 7 (mP ns)))/\ ∃ms cs c d,ms.length<=800*k+j/\cs.length<=800*k+j/\(∀m∈ms,rU F ls want m)/\ak 6=.one c/\ak 7=.one d/\grown 4992768192 gC 7 (mP ms) (.one c) aj/\grown 4992768448 BO 2 cs (.one d) aj) 0 ns.length (bG _) ?_ ?_
   .simp only[go_sem,e0,e1,e6,e7,e8];exact⟨rfl,pY,ms,cs,c,d,aa,aa,au,rfl,rfl,Cb,gc1⟩
   clear gm gc Cb gc1 au xK de pY cD e0 e1 e6 e7 e8;rintro j ak aj hj ⟨q0,q1,q8,tS,qq,A6,bL,ms,cs,c,d,xK,de,au,q6,q7,gm,gc⟩
   by_cases sH:j<ns.length
   .have F6:((j:Int)<(ns.length:Int)):=aa;have w2:=cn (n:=j) aa;obtain⟨m,qM⟩:=aL sH;have jP:=I8 qM;have F8:=Mb m (aU qM);have hkm:m.k=((k+1:Nat):Int):=F8.choose_spec.2.1;have akX:(mP ns).length=ns.length:=oz ns;have yZ:k5 m.k:=by rw[hkm];exact hw _ oY
    have pd:=do5 g yZ m.a m.b m.c m.l m.o m.s;rcases Ra g yZ m.a m.b m.c m.l m.o m.s with ⟨e,he,ha⟩|⟨M,ha,_⟩
    .rw[ha] at pd;have FW:(e==0)=false:=by simpa using he
     simp only[go_sem,i78_l1,q0,q1,q6,q7,q8,tS,qq,A6,bL,sH,F6,jP,bd.ps,s75,cJ pd amj,FW,w2];exact⟨ms,cs,c,d,aa,aa,au,rfl,rfl,gm.of_eq (by simp only[aN,Nat.reduceEqDiff,if_false]),gc.of_eq (by simp only[aN,Nat.reduceEqDiff,if_false])⟩
    have OX:rU F ls want m:=⟨by rw[hkm];exact oY,by rw[hkm];exact F8,M,ha⟩;rw[ha] at pd;simp only[go_sem,i78_l1,q0,tS,qq,A6,bL,sH,F6,jP,bd.ps,s75];refine Ii pd vn fun cx bh gx bj=>?_;have b10:=bj 4992576128 ae;simp only[go_sem] at b10;have bL2:=(bj 4992448128 ae).trans ((aS ae).trans ((aS ae).trans bL));have FL:=gm.of_eq ((bj 4992768192 ae).trans (by simp only[aN,Nat.reduceEqDiff,if_false]));have uY:=gc.of_eq ((bj 4992768448 ae).trans (by simp only[aN,Nat.reduceEqDiff,if_false]));have hmm:∀m'∈ms++[m],rU F ls want m':=fun m' h=>(fg.1 h).elim (au m') fun h=>(pO.1 h)▸OX;have wg:mP (ms++[m])=mP ms++[bd.ps m]:=by simp[mP]
    rcases gx with ⟨eM,e2⟩|⟨ak3,g2,e2,hbx⟩
    .cases e2;simp only[go_sem,b10,q6];refine zR (site:=4992768192) (id:=4992768192) (bytes:=48) (xs:=[bd.ps m]) (rd:=[4992768128]) (FL.of_eq (by simp only[aN,Nat.reduceEqDiff,if_false])) (by simp[fF,aN,bd.ps]) (.inl rfl) (by simp only[oz,dh,ff];omega) fun c' gT r1 u1 fG hJ jv=>?_;have Ku:=hJ 4992640384 ae ae;simp only[go_sem] at Ku;simp only[go_sem,Ku,q7];have Ij:=uY.of_eq ((hJ 4992768448 ae ae).trans (by simp only[aN,Nat.reduceEqDiff,if_false]:_=bh 4992768448));refine zR (site:=4992768448) (id:=4992768448) (bytes:=32) (xs:=[[.int .i64 F,.sl []]]) (rd:=[4992768384]) (Ij.of_eq (aS ae)) (by simp[fF,aN]) (.inl rfl) (by simp only[dh,ff];omega) fun d' je r2 u2 Ad kI tF=>?_
     have Kw:=(kI 4992448128 ae ae).trans ((aS ae).trans (hJ 4992448128 ae ae));simp only[aN,Nat.reduceEqDiff,if_false] at Kw;have bL5:=Kw.trans bL2;simp only[go_sem,q0,q1,q6,q7,q8,tS,qq,A6,bL5,w2,sH];refine⟨?_,ms++[m],_,c',d',by simp;omega,by simp;omega,hmm,rfl,rfl,?_,Ad⟩
     .rcases jv with ⟨rfl,rfl⟩|⟨rfl,rfl⟩|⟨rfl,rfl⟩<;>rcases tF with ⟨rfl,rfl⟩|⟨rfl,rfl⟩|⟨rfl,rfl⟩<;>kernel_rfl
     rw[wg];exact fG.of_eq ((kI 4992768192 ae ae).trans (aS ae))
    cases e2;simp only[go_sem,b10,q6];refine zR (site:=4992768192) (id:=4992768192) (bytes:=48) (xs:=[bd.ps m]) (rd:=[4992768128]) (FL.of_eq (by simp only[aN,Nat.reduceEqDiff,if_false])) (by simp[fF,aN,bd.ps]) (.inl rfl) (by simp only[oz,dh,ff];omega) fun c' gT r1 u1 fG hJ jv=>?_;have Ku:=hJ 4992640384 ae ae;simp only[go_sem] at Ku;simp only[go_sem,Ku,q7];have bx3:=(hJ (4992640128+1) ae ae);simp only[Nat.reduceAdd,aN,Nat.reduceEqDiff,if_false] at bx3 hbx;have hx3:=bx3.trans hbx;have gx3:grown (4992640128+1) jI 6 (dw M) (.one (.hsl (4992640128+1) g2 6 0 M.length)) gT:=.inr ⟨ak3,g2,by rw[dw,cM],hx3⟩
    obtain⟨fr,hx,Ae,FZ⟩:=aiJ (aj:=dK gT 4992768384 ((gT 4992768384).1+1,some (.iN BO 2 [[.p (.int .i64 F),.hsl (4992640128+1) g2 6 0 M.length]]))) (s:=4992768384) wM (gx3.of_eq (aS ae));have Ij:=uY.of_eq ((hJ 4992768448 ae ae).trans (by simp only[aN,Nat.reduceEqDiff,if_false]:_=bh 4992768448));have nf:∀i,i≠4992640128+1->i∉fr:=fun i a h=>by
     rcases FZ with rfl|rfl
     .cases h
     exact a (pO.1 h)
    refine aik (site:=4992768448) (id:=4992768448) (bytes:=32) (Ij.of_eq (aS ae)) hx Ae (nf _ ae) (nf _ ae) (.inl rfl) (by simp only[dh,ff];omega) fun d' je r2 u2 Ad kI tF=>?_;have Kw:=(kI 4992448128 ae ae (nf _ ae)).trans ((aS ae).trans (hJ 4992448128 ae ae));simp only[aN,Nat.reduceEqDiff,if_false] at Kw;have bL5:=Kw.trans bL2;simp only[go_sem,q0,q1,q6,q7,q8,tS,qq,A6,bL5,w2,sH];refine⟨?_,ms++[m],_,c',d',by simp;omega,by simp;omega,hmm,rfl,rfl,?_,Ad⟩
    .rcases FZ with rfl|rfl<;>rcases jv with ⟨rfl,rfl⟩|⟨rfl,rfl⟩|⟨rfl,rfl⟩<;>rcases tF with ⟨rfl,rfl⟩|⟨rfl,rfl⟩|⟨rfl,rfl⟩<;>kernel_rfl
    rw[wg];exact fG.of_eq ((kI 4992768192 ae ae (nf _ ae)).trans (aS ae))
   have:j=ns.length:=aa;subst this;simp only[go_sem,i78_l1,i78_r2,q0,q1,q6,q7,q8,qq,A6,eE,w1];exact⟨ay,ms,cs,c,d,aa,aa,au,rfl,rfl,gm,gc⟩
 have:k=10:=aa;subst this;have lI:¬(((10+1:Nat):Int)<=10):=ae;simp only[go_sem,i78_l3,i78_r4,e6,e7,e8,lI];exact⟨_,⟨ms,cs,⟨xK,au⟩,rfl⟩,OC ae gm gc⟩
end
theorem Vg{l:List Pc}{drop:Nat->Pc->Bool}{i:Nat}{p:Pc}(hp:l[i]?=some p)(hd:drop i p=true):(pz l drop).length<l.length:=by
 have hi:=(aW.1 hp).1;have key:∀k,k<=l.length->i<k->(tK l drop k).length<k:=by
  intro k
  induction k with
  |zero=>intro _ h;exact absurd h (qY i)
  |succ k ih=>
   intro hk hik;by_cases e:i=k
   .subst e;rw[AM hp hd];have:=Gr l drop i;omega
   obtain⟨q,hq⟩:=aL (ls:=l) (k:=k) aa;have:=ih aa aa;cases xA:drop k q
   .rw[I1 hq xA,gh];simp only[dh,ff];omega
   rw[AM hq xA];omega
 exact key l.length (bN _) hi
theorem Z6{q:Let->Bool}(l:List Pc):aw q (qF l)=l.countP fun p=>q p.l:=by
 have e:aw q (l.map Pc.l)=l.countP fun p=>q p.l:=by show List.countP _ (List.map _ _)=_;rw[Dc];rfl
 rw[<- e];have hf:(uj l).getD 0<=l.length:=by
  cases h:uj l with
  |none=>exact bG _
  |some f=>have:=He h;simp at this;simp only[nc];omega
 unfold qF;rw[V2 hf];show List.countP _ _=List.countP _ _;rw[ll,vF,Nat.add_comm,<- vF,<- ll,mX]
section
variable {F:Nat} {ls:List Let}
theorem anD{k:Int}(hk:k=1\/k=4\/k=6){a b c:Nat}{l o:Bool}{sg:Int}(ha:a<ls.length){L:List Pc}(h:tN F ls k a b c l o sg=some L):L.length<ls.length:=by
 obtain⟨p,hp⟩:=aL (ls:=pieces ls) (k:=a) (by rw[fW];exact ha);have cA:=fW ls;have hg:(pieces ls).getD a ⟨lh,false⟩=p:=by simp[dq,hp]
 rcases hk with rfl|rfl|rfl
 .have h:zL ls a=some L:=h;unfold zL at h;simp only at h;split at h
  .cases h;show(List.map _ _).length<_;rw[cM,<- cA];exact Vg hp af
  cases h
 .have h:AO ls a=some L:=h;unfold AO at h;simp only at h;rw[hg] at h;split at h
  .rename_i hc;cases h;show(List.map _ _).length<_;rw[cM,<- cA];simp only[cX] at hc;exact Vg hp (by unfold uh;rw[hc.1];simp)
  cases h
 have h:A1 F ls a b=some L:=h;unfold A1 at h;rw[kh hp] at h;split at h
 .rename_i hc;cases h;show(List.map _ _).length<_;rw[cM,<- cA];have jt:(p.l.kind==2)=true:=by
   simp only[cX,Br] at hc;unfold kV at hc;rw[kh hp] at hc;simp only[cX] at hc;rcases hc.1 with h|h
   .exact h.1.1
   exact h.1.1
  exact Vg hp (by unfold uh;rw[jt];simp)
 cases h
theorem aif(g:dF F ls){want:List Int}{m:bd}(hm:rU F ls want m)(hk:m.k=1\/m.k=4\/m.k=6):∃M,vK F ls m.k m.a m.b m.c m.l m.o m.s=rX F M/\cU F M=0/\M.length<ls.length/\aw Let.aE M<=aw Let.aE ls/\aw Let.aB M<=aw Let.aB ls:=by
 obtain⟨_,⟨av,ha,_,ea,_⟩,M0,e0⟩:=hm;have yZ:k5 m.k:=by unfold k5;omega
 rcases Ra g yZ m.a m.b m.c m.l m.o m.s with ⟨e,he,h⟩|⟨M,h,hc,_,L,hL,rfl⟩
 .rw[e0] at h;unfold rX uI at h;simp only[RV.tup.injEq,G9,RV.one.injEq,RC.p.injEq,PV.int.injEq,and_true,true_and] at h;exact absurd h.2.symm he
 rw[ea,tY] at hL;have cA:=fW ls;have ay:=anD hk ha hL;have hb:m.b.toNat<ls.length\/(m.k≠3/\m.k≠8):=.inr ⟨aa,aa⟩;have vZ:m.c.toNat<ls.length\/m.k≠8:=.inr aa;have kC:Gs (fun p=>p.l.aB):=fun p p' h=>by show(p.l.kind==2)=(p'.l.kind==2);rw[h]
 have kP:Gs (fun p=>p.l.aE):=fun p p' h=>by show(p.l.kind==1)=(p'.l.kind==1);rw[h]
 have pq:∀q:Let->Bool,(pieces ls).countP (fun p=>q p.l)=aw q ls:=fun q=>by rw[<- PS (ls:=ls) q];show _=List.countP _ (List.map _ _);rw[Dc];rfl
 have c1:=Pv g kP yZ ha hb vZ hL;have c2:=Pv g kC yZ ha hb vZ hL;rw[pq] at c1 c2;exact⟨_,h,hc,by rw[Z5];exact ay,by rw[Z6];exact c1,by rw[Z6];exact c2⟩
end
section
variable {F:Nat}
theorem ahz{k:Int}(hk:(k==2)=false):aI S 99 [.one (.p (eI F [])),vi k] (.one (aT gC 7 [])):=by have cA:(dN (pieces [])).length=0:=rfl;have h7:(((0:Nat):Int)==0)=true:=ae;refine aZ c99 ?_;simp only[go_sem,i99,i99_r12,cA,h7,hk];refine rj ?_;simp only[go_sem,i99_l10,i99_r11,zz];rfl
theorem aqT(want:List Int)(lL:want.length<=10)(hw:∀k∈want,wA k):aI S 78 [.one (.p (eI F [])),.one (.p (.sl (iP want)))] (.tup [.one (aT gC 7 []),.one (aT BO 2 [])]):=by
 have lY:S.lone 4992448128=false:=ah;refine aZ c78 ?_;simp only[go_sem,i78];refine cV (fun k ak aj=>ak 0=.one (.p (eI F []))/\ak 1=.one (.p (.sl (iP want)))/\ak 8=vi ((k+1:Nat):Int)/\ak 6=.one (.p .nils)/\ak 7=.one (.p .nils)) 0 10 (bG _) ?_ ?_
 .simp only[go_sem];rfl
 rintro k ak aj hk ⟨e0,e1,e8,e6,e7⟩
 by_cases ay:k<10
 .have aJ:((k+1:Nat):Int)<=10:=aa;have w1:=cn (n:=k+1) aa;have ph:=Yb want ((k+1:Nat):Int) aa;cases hc:want.contains ((k+1:Nat):Int) with
  |false=>rw[hc] at ph;simp only[go_sem,i78_l3,i78_r2,e0,e1,e6,e7,e8,aJ,s98,cY ph,w1];exact ay
  |true=>
   have oY:((k+1:Nat):Int)∈want:=by simpa using hc
   have pc:=ahz (F:=F) (k:=((k+1:Nat):Int)) (beq_eq_false_iff_ne.2 (by have:=hw _ oY;unfold wA k5 at this;omega));rw[hc] at ph;simp only[go_sem,i78_l3,e0,e1,e8,aJ,s98,cY ph,s99];refine rB pc lY (.inl rfl) fun cc bK gl cD=>?_;rcases gl with ⟨e,e2⟩|⟨h,_⟩
   .cases e2;simp only[go_sem];refine rj ?_;simp only[go_sem,i78_l1,i78_r2,e0,e1,e6,e7,e8,zz,w1];exact ay
   exact absurd rfl h
 have:k=10:=aa;subst this;have lI:¬(((10+1:Nat):Int)<=10):=ae;simp only[go_sem,i78_l3,i78_r4,e6,e7,e8,lI];rfl
end
section
variable {F:Nat} {ls:List Let}
theorem XR(h:cU (F:Int) []=0):F<=40:=by
 unfold cU at h;rw[if_neg ae] at h;by_cases hf:(F:Int)<0\/40<(F:Int)
 .rw[if_pos hf] at h;cases h
 omega
theorem aqU(h:cU (F:Int) ls=0)(want:List Int)(lL:want.length<=10)(hw:∀k∈want,wA k):∃ms cs,(ms.length<=8000/\ ∀m∈ms,rU F ls want m)/\aI S 78 [.one (.p (eI F ls)),.one (.p (.sl (iP want)))] (.tup [.one (aT gC 7 (mP ms)),.one (aT BO 2 cs)]):=by
 by_cases aH:ls=[]
 .subst aH;exact⟨[],[],⟨af,fun m h=>by cases h⟩,aqT want lL hw⟩
 obtain⟨G,e,g⟩:=xg h aH;have:F=G:=aa;subst this;exact aqV g (iX.2 aH) want lL hw
theorem anQ(h:cU (F:Int) ls=0):aI S 74 [dX F ls] (zA (eI F ls) (.int .i64 0)):=by
 by_cases aH:ls=[]
 .subst aH;exact anO (XR h)
 obtain⟨G,e,g⟩:=xg h aH;have:F=G:=aa;subst this;exact adO g
theorem WY(h:cU (F:Int) ls=0)(want:List Int)(lL:want.length<=10)(hw:∀k∈want,wA k):∃ms,(ms.length<=8000/\ ∀m∈ms,rU F ls want m)/\aI S 51 [dX F ls,.one (.p (.sl (iP want)))] (.tup [.one (aT gC 7 (mP ms)),.one (.p (.int .i64 0))]):=by obtain⟨ms,cs,hm,ps⟩:=aqU h want lL hw;have po:=anQ h;have lo:S.lone 3264256128=false:=ah;refine⟨ms,hm,?_⟩;refine aZ c51 ?_;simp only[go_sem,i51,s74,cJ po fL,s78];refine ajU ps lo fun c d bK gc gd hb=>?_;simp only[go_sem];exact yO gc
abbrev zy:List Int:=[1,4,6]
theorem apg:∀k∈zy,wA k:=by intro k h;simp only[cP,jz,or_false] at h;unfold wA k5;omega
abbrev Jx(m:bd)(b:Bool):RV:=.tup [.agg (m.ps.map .p),.one (.p (.bool b))]
theorem Qi(ms:List bd):((mP ms).all fun e=>e.all PV.scalar)=true:=by rw[ko];intro e he;obtain⟨i,_,rfl⟩:=dQ.1 he;rfl
abbrev QK:bd:=⟨0,0,0,0,false,false,0⟩
theorem aer(h:cU (F:Int) ls=0):(∃m,rU F ls zy m/\(¬aI S 51 [dX F ls,.one (.p (.sl (iP zy)))] (.tup [.one (aT gC 7 []),.one (.p (.int .i64 0))]))/\aI S 28 [dX F ls] (Jx m true))\/(aI S 51 [dX F ls,.one (.p (.sl (iP zy)))] (.tup [.one (aT gC 7 []),.one (.p (.int .i64 0))])/\aI S 28 [dX F ls] (Jx QK false)):=by
 obtain⟨ms,⟨_,hm⟩,ps⟩:=WY h zy ae apg;have ps':aI S 51 [dX F ls,.one (.p (.sl [[.int .i64 1],[.int .i64 4],[.int .i64 6]]))] (.tup [.one (aT gC 7 (mP ms)),.one (.p (.int .i64 0))]):=ps;have lo:S.lone 1792064128=false:=ah;cases ms with
 |nil=>
  refine .inr ⟨ps,?_⟩;refine aZ c28 ?_;simp only[go_sem,i28,s51];refine aax ps' lo (Qi _) rfl fun c bK gc hb=>?_;have b2:=hb 1792000064 ae;simp only[go_sem] at b2;rcases gc with ⟨_,e2⟩|⟨h,_⟩
  .cases e2;have Lm:(((0:Nat):Int)==0)=true:=ae;simp only[go_sem,Lm,b2];rfl
  exact absurd rfl h
 |cons m r=>
  refine .inl ⟨m,hm m af,(fun h=>by have:=ps.zS h;simp[aT] at this),?_⟩
  refine aZ c28 ?_;simp only[go_sem,i28,s51];refine aax ps' lo (Qi _) rfl fun c bK gc hb=>?_;have b2:=hb 1792000064 ae;simp only[go_sem] at b2;rcases gc with ⟨h,_⟩|⟨_,gg,e2,hC⟩
  .cases h
  cases e2;have hl:(mP (m::r)).length=r.length+1:=by simp[mP]
  have Lm:(((r.length+1:Nat):Int)==0)=false:=by rw[beq_eq_false_iff_ne];omega
  have ay:0<r.length+1:=aa;have jP:(mP (m::r))[0]?=some m.ps:=rfl;rw[hl];generalize mP (m::r)=es at*;simp only[go_sem,Lm,b2,hC,jP,ay,bd.ps];rfl
end
theorem ajX{Q:dA}{ak:Env}{aj:aA}{os:List aO}{d:Option Nat}{f:Nat}{vs:List V}{s t1 z1 t2 z2:Nat}{rd:List Nat}{es fs:List (List PV)}{x:PV}(hp:aI S f vs (.tup [.agg [.p x,aT t1 z1 es],.one (aT t2 z2 fs)]))(eS:S.lone s=false)(hx:x.scalar=true)
  (a1:(es.all fun e=>e.all PV.scalar)=true) (a2:(fs.all fun e=>e.all PV.scalar)=true)
  (hK:∀(c e:C) ao,grown (s+1) t1 z1 es (.one c) ao->grown (s+2) t2 z2 fs (.one e) ao->(∀i,i≠s+1->i≠s+2->ao i=aj i)->RN S .all os Q (put ak d (.tup [.agg [.p x,c],.one e])) ao):gP S .all (.pc f vs rd s) d os Q ak aj:=by
 obtain⟨h1,h2,_⟩:=rM (aj:=aj) (s:=s+1) (ty:=t1) (z:=z1) (es:=es);have e0:∀(b b':aA) (k:Nat) (r:RC),b' k=b k->cH b k r=cH b' k r:=by
  intro b b' k r h;cases r with
  |p v=>rfl
  |own ty sz es=>simp only[cH,h]
 have e2:cH aj (s+2) (aT t2 z2 fs)=cH (app (cH aj (s+1) (aT t1 z1 es)).2 aj) (s+2) (aT t2 z2 fs):=e0 _ _ _ _ (h2 (s+2) aa);obtain⟨k1,k2,_⟩:=rM (aj:=app (cH aj (s+1) (aT t1 z1 es)).2 aj) (s:=s+2) (ty:=t2) (z:=z2) (es:=fs);rw[<- e2] at k1 k2;have Ac:∀(a b:List eN) (c:aA),app (a++b) c=app b (app a c):=by
  intro a
  induction a with
  |nil=>intro b c;rfl
  |cons x a ih=>intro b c;exact ih b _
 have gZ:(RV.tup [.agg [.p x,aT t1 z1 es],.one (aT t2 z2 fs)]).alone=true:=by
  have a:=qA (ty:=t1) (z:=z1) a1;have b:=qA (ty:=t2) (z:=z2) a2;have IT:(RV.one (.p x)).alone=true:=by show(x.scalar&&true)=true;rw[hx];rfl
  skip
  simp only[RV.alone,gG,ik,mB,pM,wO] at a b IT;simp only[RV.alone,gG,mf,ik,yf,gD,kN,mB,pM,wO,a,b,IT]
 refine(cJ (v:=.tup [.agg [.p x,(cH aj (s+1) (aT t1 z1 es)).1],.one (cH aj (s+2) (aT t2 z2 fs)).1]) (u:=(cH aj (s+1) (aT t1 z1 es)).2++(cH aj (s+2) (aT t2 z2 fs)).2) hp ?_).2 (hK _ _ _ ?_ ?_ ?_)
 .rw[eS,uH];unfold land;rw[if_pos (.inr gZ)];simp[jl,gG,mf,ik,iT,qt,qT,l7,cH]
 .rw[Ac];exact h1.of_eq (k2 (s+1) aa)
 .rw[Ac];exact k1
 intro i a b;rw[Ac,k2 i b,h2 i a]
theorem adU{s1 t1 z1 s2 t2 z2:Nat}{es fs:List (List PV)}{c d:C}{x:PV}{aj:aA}(hs:s1≠s2)(h:grown s1 t1 z1 es (.one c) aj)(h':grown s2 t2 z2 fs (.one d) aj):iU aj (.tup [.agg [.p x,c],.one d])=some (.tup [.agg [.p x,aT t1 z1 es],.one (aT t2 z2 fs)]):=by obtain⟨c',o,hc,h2,h3⟩:=h.ke;cases hc;obtain⟨d',q,hd,k2,k3⟩:=h'.ke;cases hd;have e1:ke aj (.p x)=some (.p x,[],[]):=rfl;rcases h3 with rfl|rfl<;>rcases k3 with rfl|rfl<;>simp[iU,tA,uX,nT,mT,h2,k2,e1,apart,vv,sX,A9,hs]
theorem Po{aj:aA}{rd:List Nat}{s:Nat}{m:bd}{b:Bool}{l:Bool}:land aj rd s ((Jx m b).gK l)=some (.tup [.agg [.p (.int .i64 m.k),.p (.int .i64 m.a),.p (.int .i64 m.b),.p (.int .i64 m.c),.p (.bool m.l),.p (.bool m.o),.p (.int .i64 m.s)],.one (.p (.bool b))],[]):=by cases l<;>(unfold land;rw[if_pos (.inr rfl)];rfl)
def Jf(F:Nat)(L:List Let):Prop:=aI S 51 [dX F L,.one (.p (.sl (iP zy)))] (.tup [.one (aT gC 7 []),.one (.p (.int .i64 0))])
theorem amG:∀ {A B:List Let},dw A=dw B->A=B:=by
 intro A
 induction A with
 |nil=>intro B h;cases B with
  |nil=>rfl
  |cons _ _=>cases h
 |cons a A ih=>
  intro B h;cases B with
  |nil=>cases h
  |cons b B=>have h:a.ps::dw A=b.ps::dw B:=h;rw[G9] at h;rw[ih h.2];have h1:=h.1;cases a;cases b;simp only[Let.ps,G9,PV.int.injEq,PV.bool.injEq,and_true,true_and] at h1;obtain⟨rfl,rfl,rfl,rfl,rfl,rfl⟩:=h1;rfl
theorem apz{A B:List Let}(h:rX F A=rX F B):A=B:=by
 unfold rX at h;simp only[RV.tup.injEq,G9,RV.agg.injEq,and_true,true_and] at h;unfold aT at h;by_cases hA:dw A=[]
 .by_cases hB:dw B=[]
  .rw[List.map_eq_nil_iff.1 hA,List.map_eq_nil_iff.1 hB]
  rw[if_pos hA,if_neg hB] at h;cases h
 by_cases hB:dw B=[]
 .rw[if_neg hA,if_pos hB] at h;cases h
 rw[if_neg hA,if_neg hB] at h;simp only[RC.own.injEq,true_and] at h;exact amG h
theorem Qe{L:List Let}{e:Int}(he:e≠0):rX F L≠uI e:=fun h=>by unfold rX uI at h;simp only[RV.tup.injEq,G9,RV.one.injEq,RC.p.injEq,PV.int.injEq,and_true,true_and] at h;exact he h.2.symm
theorem Xe{ls M:List Let}(aH:ls≠[]){m:bd}(h:vK F ls m.k m.a m.b m.c m.l m.o m.s=rX F M):sk F ls m=some M:=by
 unfold sk;rw[if_neg aH];unfold vK at h;by_cases hA:bJ F ls m.k m.a m.b m.c m.l m.o m.s=true
 .rw[if_pos hA] at h ⊢;cases hM:tN F ls m.k m.a.toNat m.b.toNat m.c.toNat m.l m.o m.s with
  |none=>rw[hM] at h;exact absurd h.symm (Qe ae)
  |some L=>
   rw[hM] at h;dsimp only;by_cases hc:(400:Int)<(ls.length:Int)+(nz m.k).1\/(100:Int)<((aw Let.aB ls/2:Nat):Int)+(nz m.k).2
   .have e2:zT F ls m.k (some L)=uI 7:=if_pos hc;rw[e2] at h;exact absurd h.symm (Qe ae)
   have e2:zT F ls m.k (some L)=rX F (qF L):=if_neg hc;rw[e2] at h;rw[if_neg hc,apz h]
 rw[if_neg hA] at h;exact absurd h.symm (Qe ae)
structure Bz (F:Nat) (ls:List Let) (ms:List bd) (L:List Let):Prop where
 len:L.length+ms.length<=ls.length
 chk:cU (F:Int) L=0
 rep:vu F ls ms=some L
 kind:∀m∈ms,m.k∈zy
def Rp(F:Nat)(ls:List Let)(ms:List bd)(L:List Let)(c:C)(aj:aA):Prop:=(c=.p (cF L)/\ms=[]/\L=ls)\/grown 1600320129 jI 6 (dw L) (.one c) aj
theorem Rp.snap{ls L:List Let}{ms:List bd}{c:C}{aj:aA}(h:Rp F ls ms L c aj):∃r,∀B:aA,B 1600320129=aj 1600320129->Go.Abs.snap B fH c=some (cF L,r):=by
 rcases h with ⟨rfl,_,_⟩|h
 .exact⟨[],fun B _=>rfl⟩
 obtain⟨r,h1,_⟩:=h.ET;exact⟨r,h1⟩
theorem Bz.step{ls L:List Let}{ms:List bd}{m:bd}(h:Bz F ls ms L)(h4:ls.length<=400)(hm:rU F L zy m):∃M,aI S 47 [dX F L,Gy m] (rX F M)/\Bz F ls (ms++[m]) M:=by
 have aH:L≠[]:=by obtain⟨_,⟨a,ha,_⟩,_⟩:=hm;intro e;rw[e] at ha;exact absurd ha (qY a)
 obtain⟨G,e,g⟩:=xg h.chk aH;have:F=G:=aa;subst this;have hk:m.k=1\/m.k=4\/m.k=6:=by
  have:=hm.1
  simpa using this
 obtain⟨M,ha,hc,ay,_,_⟩:=aif g hm hk;have yZ:k5 m.k:=by unfold k5;omega
 have pa:=Xf g yZ m.a m.b m.c m.l m.o m.s;rw[ha] at pa;have hl:=h.len;refine⟨M,pa,⟨by rw[gh];simp only[dh,ff];omega,hc,by rw[aeu m h.rep];exact Xe aH ha,fun x hx=>?_⟩⟩;rcases fg.1 hx with h1|h1
 .exact h.kind x h1
 rw[pO.1 h1];exact hm.1
theorem Bz.start{ls:List Let}(h:cU (F:Int) ls=0):Bz F ls [] ls:=⟨bN _,h,rfl,fun m h=>(by cases h)⟩
def V0(F:Nat)(ls:List Let)(ms:List bd)(M:List Let)(r:RV):Prop:=(ms=[]/\M=ls/\r=.tup [.agg [.p (.int .i64 F),.p (cF ls)],.one (.p .nils)])\/r=.tup [.agg [.p (.int .i64 F),aT jI 6 (dw M)],.one (aT gC 7 (mP ms))]
theorem api{ls:List Let}(qJ:cU (F:Int) ls=0)(hlen:ls.length<=400):∃r,(∃ms M,Bz F ls ms M/\Jf F M/\V0 F ls ms M r)/\aI S 25 [dX F ls] r:=by
 have lY:S.lone 1600320128=false:=ah;have red:∀L,cU (F:Int) L=0->∃m b,aI S 28 [dX F L] (Jx m b)/\(b=true->rU F L zy m)/\(b=false->Jf F L):=by
  intro L h;rcases aer h with ⟨m,h1,_,h2⟩|⟨h1,h2⟩
  .exact⟨m,true,h2,fun _=>h1,fun h=>(by cases h)⟩
  exact⟨QK,false,h2,fun h=>(by cases h),fun _=>h1⟩
 refine Hn rfl c25 (iv rfl) ?_;obtain⟨m0,b0,pr0,k1,k2⟩:=red ls qJ;simp only[go_sem,i25,s28,cJ pr0 Po];refine cV (fun k ak aj=>∃L ms c d m b gm idm,(idm=1600128320\/idm=1600512000)/\ak 1=.one (.aY 1600000000 1 0)/\ak 2=.one (.aY 1600000064 1 0)/\aj 1600000064=(1,some (.var [.p (.int .i64 0),.p .nils]))/\ak 6=.one (.p (.bool b))/\ak 4=.one d/\ak 5=.one (.aY idm gm 0)/\aj idm=(gm,some (.var (m.ps.map .p)))/\aj 1600000000=(1,some (.var [.p (.int .i64 F),c]))/\Rp F ls ms L c aj/\grown 1600384192 gC 7 (mP ms) (.one d) aj/\ms.length=k/\Bz F ls ms L/\(b=true->rU F L zy m)/\(b=false->Jf F L)) 0 ls.length (bG _) ?_ ?_
 .simp only[go_sem];refine⟨ls,[],.p (cF ls),.p .nils,m0,b0,1,1600128320,.inl rfl,?_⟩;exact⟨rfl,rfl,rfl,rfl,rfl,.inl ⟨rfl,rfl,rfl⟩,grown.nil,rfl,Bz.start qJ,k1,k2⟩
 rintro k ak aj hk ⟨L,ms,c,d,m,b,gm,idm,hid,h1,h2,bZ,h6,h4,h5,bm,b0,hc,gp,F8,hR,au,dD⟩
 rcases hid with rfl|rfl
 .have hcB:=hc;obtain⟨rd,lK⟩:=hcB.snap;simp only[bd.ps,dS,kQ] at bm;cases b with
  |false=>
   simp only[go_sem,i25_l1,i25_r2,h1,h2,h4,h6,b0,bZ];rcases hc with ⟨rfl,rfl,rfl⟩|gc
   .rcases gp with ⟨_,e2⟩|⟨aH,_⟩
    .cases e2;exact⟨_,⟨[],_,hR,dD rfl,.inl ⟨rfl,rfl,rfl⟩⟩,rfl⟩
    exact absurd rfl aH
   exact⟨_,⟨ms,L,hR,dD rfl,.inr rfl⟩,adU ae (gc.of_eq (aS ae)) (gp.of_eq (aS ae))⟩
  |true=>
   obtain⟨M,pa,FT⟩:=hR.step hlen (au rfl);obtain⟨m2,b2,pr2,k1,k2⟩:=red M FT.chk;have akZ:=hR.len;simp only[go_sem,i25_l1,h1,h5,h6,bm,b0,lK,s47];refine Uq pa lY rfl rfl (GM _) fun cc bK gc hb=>?_;have q0:=hb 1600000000 ae;have q1:=hb 1600128320 ae;have q2:=hb 1600000064 ae;simp only[go_sem,b0,bm,bZ] at q0 q1 q2;have FO:=gp.of_eq (hb 1600384192 ae);simp only[go_sem,h1,h4,h5,q0,q1];refine um (xs:=[bd.ps m]) (FO.of_eq (by simp only[aN,Nat.reduceEqDiff,if_false])) (by simp only[fF,aN,if_true];rfl) (.inl rfl) (by simp only[oz,dh,ff];omega) fun d2 bh gp2 bj=>?_
   have r0:=bj 1600000000 ae ae;have r1:=bj 1600128320 ae ae;have r2:=bj 1600000064 ae ae;simp only[go_sem,q0,q1,q2] at r0 r1 r2;have uY:grown 1600320129 jI 6 (dw M) (.one cc) bh:=(show grown 1600320129 jI 6 (dw M) (.one cc) bK from gc).of_eq ((bj 1600320129 ae ae).trans (by simp only[aN,Nat.reduceEqDiff,if_false]));obtain⟨rd2,eG,_⟩:=uY.ET;simp only[go_sem,h1,h2,h4,h5,h6,r0,r1,r2,eG,s28,cJ pr2 Po];have sG:=FT.len;rw[gh] at sG
   simp only[dh,ff] at sG;refine⟨aa,M,ms++[m],cc,d2,m2,b2,_,1600512000,.inr rfl,rfl,rfl,rfl,if_pos rfl,rfl,.inr (uY.of_eq (by simp only[aN,Nat.reduceEqDiff,if_false])),?_,by simp[F8],FT,k1,k2⟩;rw[show mP (ms++[m])=mP ms++[bd.ps m] by simp[mP]];exact gp2.of_eq (by simp only[aN,Nat.reduceEqDiff,if_false])
 have hcB:=hc;obtain⟨rd,lK⟩:=hcB.snap;simp only[bd.ps,dS,kQ] at bm;cases b with
 |false=>
  simp only[go_sem,i25_l1,i25_r2,h1,h2,h4,h6,b0,bZ];rcases hc with ⟨rfl,rfl,rfl⟩|gc
  .rcases gp with ⟨_,e2⟩|⟨aH,_⟩
   .cases e2;exact⟨_,⟨[],_,hR,dD rfl,.inl ⟨rfl,rfl,rfl⟩⟩,rfl⟩
   exact absurd rfl aH
  exact⟨_,⟨ms,L,hR,dD rfl,.inr rfl⟩,adU ae (gc.of_eq (aS ae)) (gp.of_eq (aS ae))⟩
 |true=>
  obtain⟨M,pa,FT⟩:=hR.step hlen (au rfl);obtain⟨m2,b2,pr2,k1,k2⟩:=red M FT.chk;have akZ:=hR.len;simp only[go_sem,i25_l1,h1,h5,h6,bm,b0,lK,s47];refine Uq pa lY rfl rfl (GM _) fun cc bK gc hb=>?_;have q0:=hb 1600000000 ae;have q1:=hb 1600512000 ae;have q2:=hb 1600000064 ae;simp only[go_sem,b0,bm,bZ] at q0 q1 q2;have FO:=gp.of_eq (hb 1600384192 ae);simp only[go_sem,h1,h4,h5,q0,q1];refine um (xs:=[bd.ps m]) (FO.of_eq (by simp only[aN,Nat.reduceEqDiff,if_false])) (by simp only[fF,aN,if_true];rfl) (.inl rfl) (by simp only[oz,dh,ff];omega) fun d2 bh gp2 bj=>?_
  have r0:=bj 1600000000 ae ae;have r1:=bj 1600512000 ae ae;have r2:=bj 1600000064 ae ae;simp only[go_sem,q0,q1,q2] at r0 r1 r2;have uY:grown 1600320129 jI 6 (dw M) (.one cc) bh:=(show grown 1600320129 jI 6 (dw M) (.one cc) bK from gc).of_eq ((bj 1600320129 ae ae).trans (by simp only[aN,Nat.reduceEqDiff,if_false]));obtain⟨rd2,eG,_⟩:=uY.ET;simp only[go_sem,h1,h2,h4,h5,h6,r0,r1,r2,eG,s28,cJ pr2 Po];have sG:=FT.len;rw[gh] at sG
  simp only[dh,ff] at sG;refine⟨aa,M,ms++[m],cc,d2,m2,b2,_,1600512000,.inr rfl,rfl,rfl,rfl,if_pos rfl,rfl,.inr (uY.of_eq (by simp only[aN,Nat.reduceEqDiff,if_false])),?_,by simp[F8],FT,k1,k2⟩;rw[show mP (ms++[m])=mP ms++[bd.ps m] by simp[mP]];exact gp2.of_eq (by simp only[aN,Nat.reduceEqDiff,if_false])
end
end Go.Abs
