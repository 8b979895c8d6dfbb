/-
  The moves that are tried and those that are possible; the reducing search.
-/
import Derived.Test.YthcnadmehopfcaaGreatDoorUe
import Derived.Test.YthcnadmehopfcaaGreatDoorRa
set_option linter.all false
set_option maxRecDepth 100000
set_option maxHeartbeats 16000000
namespace Go.Abs
section
variable{D:List Nat}{F av:Nat}{ms ns:List aP}{ls:List Let}{want:List Int}{m:aP}
def EL(q:Pc->Bool):Prop:=∀p p':Pc,p.l.kind=p'.l.kind->q p=q p'
theorem WK{q:Pc->Bool}(l:List Pc)(drop:Nat->Pc->Bool):(pI l drop).countP q<=l.countP q:=by
 have key:∀k,k<=l.length->(tP l drop k).countP q<=(l.take k).countP q:=by
  intro k
  induction k with
  |zero=>intro _;exact bJ _
  |succ k ih=>
   intro hk;obtain⟨p,hp⟩:=aM (ls:=l) (k:=k) aa;have:=ih aa;rw[kX,hp,v7];cases hd:drop k p
   .rw[JN hp hd,v7];exact Nat.add_le_add_right this _
   rw[Bh hp hd];omega
 have:=key l.length (bJ _);rwa[jQ] at this
theorem W8{q:Pc->Bool}(hq:EL q){f:Pc->Pc}(hf:∀p,(f p).l.kind=p.l.kind)(l:List Pc):(l.map f).countP q=l.countP q:=by rw[Ao];exact KY fun p _=>by rw[Function.comp_apply,hq _ _ (hf p)]
theorem ata(g ab b:Int)(p:Pc):(rX g ab b p).l.kind=p.l.kind:=by unfold rX;split<;>rfl
theorem ae7(ids:List Int)(p:Pc):(rO ids p).l.kind=p.l.kind:=by unfold rO;split<;>rfl
section
variable {F:Nat} {ls:List Let}
theorem ahz(g:cH F ls){q:Pc->Bool}:∀(es:List Nat) (l:List Pc),l.length=ls.length->(∀e∈es,e<ls.length)->(iO ls l es).countP q=l.countP q:=by
 intro es
 induction es with
 |nil=>intro l _ _;rfl
 |cons e es ih=>intro l hl he;show(iO ls (ie ls l e) es).countP q=_;rw[ih _ (by rw[Hm,hl]) fun e h=>he e (by simp[h]),KH hl (he e af) (Xj g (he e af))]
theorem ag5{q:Pc->Bool}(hq:EL q)(l:List Pc)(i:Nat)(r:Int):(jM l i r).countP q=l.countP q:=by
 by_cases h:i<l.length
 .obtain⟨p,hp⟩:=aM h;exact XO hp fun p=>hq _ _ rfl
 unfold jM;rw[aip aa]
def k5 (k:Int):Prop:=k=1\/k=3\/k=4\/k=6\/k=8
theorem NN(g:cH F ls){q:Pc->Bool}(hq:EL q){k:Int}(hk:k5 k){a b c:Nat}{l o:Bool}{sg:Int}(ha:a<ls.length)(hb:b<ls.length\/(k≠3/\k≠8))(hc:c<ls.length\/k≠8){L:List Pc}(h:qu F ls k a b c l o sg=some L):L.countP q<=(pieces ls).countP q:=by
 have bU:=gG ls;rcases hk with rfl|rfl|rfl|rfl|rfl
 .have h:wB ls a=some L:=h;unfold wB at h;simp only at h;split at h
  .cases h;show(List.map _ _).countP q<=_;rw[W8 hq (ata _ _ _)];exact WK (q:=q) (pieces ls) _
  cases h
 .have h:u9 F ls a b=some L:=h;unfold u9 at h;split at h
  .cases h;rw[ahz g _ _ (by rw[BC,BC,bU]) (by
    intro e he;simp only[cM,gC,or_false] at he;rcases he with rfl|rfl
    .exact ha
    rcases hb with hb|hb
    .exact hb
    exact absurd rfl hb.1),ag5 hq,ag5 hq]
   exact bJ _
  cases h
 .have h:yv ls a=some L:=h;unfold yv at h;simp only at h;split at h
  .cases h;show(List.map _ _).countP q<=_;rw[W8 hq (ae7 _)];exact WK (q:=q) (pieces ls) _
  cases h
 .have h:vO F ls a b=some L:=h;unfold vO at h;split at h
  .cases h;show(List.map _ _).countP q<=_;rw[W8 hq (ae7 _)];exact WK (q:=q) (pieces ls) _
  cases h
 have h:ub F ls a b c=some L:=h;unfold ub at h;split at h
 .cases h;rw[ahz g _ _ bU (by
   intro e he;simp only[cM,gC,or_false] at he;rcases he with rfl|rfl|rfl
   .exact ha
   .rcases hb with hb|hb
    .exact hb
    exact absurd rfl hb.2
   rcases hc with hc|hc
   .exact hc
   exact absurd rfl hc)]
  exact bJ _
 cases h
theorem do5(g:cH F ls){k:Int}(hk:k5 k)(a b c:Int)(l o:Bool)(sg:Int):aK S 74 [.one (.p (eQ F ls)),oD k a b c l o sg] (nI F ls k a b c l o sg):=by
 have pa:=ajo (F:=F) (ls:=ls) (a:=a) (b:=b) (c:=c) (l:=l) (o:=o) (sg:=sg) k;have hlen:=g.len;have eI:=g.cr;unfold nI;cases hA:cS F ls k a b c l o sg with
 |false=>rw[hA] at pa;exact alm pa
 |true=>
  rw[hA] at pa;rw[aF rfl];have hL:∀L,qu F ls k a.toNat b.toNat c.toNat l o sg=some L->L.length<=1000000:=fun L h=>by have:=aqt h;omega
  have ne:=g.ne;have js:¬ls.length=0:=by have:=jf.2 ne;omega
  unfold cS at hA;by_cases h1:k=1
  .subst h1;simp only[Int.reduceEq,if_true,if_false,or_false,or_self] at hA;simp only[cN,mv,dI] at hA;obtain⟨rfl,rfl,rfl,hx,rfl,rfl⟩:=hA;obtain⟨av,rfl,ha⟩:=mO hx;simp only[vZ] at hL ⊢;exact LV hlen eI (k:=1) rfl ae ah pa (ajA g ha) hL
  by_cases h3:k=3
  .subst h3;simp only[Int.reduceEq,if_true,if_false,or_false,or_self] at hA;simp only[cN,mv,dI,pR] at hA;obtain⟨rfl,rfl,rfl,hx,rfl,hy,au⟩:=hA;obtain⟨av,rfl,ha⟩:=mO hx;obtain⟨bv,rfl,hb⟩:=mO hy;simp only[vZ] at hL ⊢;exact LV hlen eI (k:=3) rfl ae ah pa (ajE g ha hb) hL
  by_cases h4:k=4
  .subst h4;simp only[Int.reduceEq,if_true,if_false,or_false,or_true,or_self] at hA;simp only[cN,mv,dI] at hA;obtain⟨rfl,rfl,rfl,hx,rfl,rfl⟩:=hA;obtain⟨av,rfl,ha⟩:=mO hx;simp only[vZ] at hL ⊢;exact LV hlen eI (k:=4) rfl ae ah pa (apO g ha) hL
  by_cases h6:k=6
  .subst h6;simp only[Int.reduceEq,if_true,if_false,or_true,or_self] at hA;simp only[cN,mv,dI,pR] at hA;obtain⟨rfl,rfl,rfl,hx,rfl,hy,au⟩:=hA;obtain⟨av,rfl,ha⟩:=mO hx;obtain⟨bv,rfl,hb⟩:=mO hy;simp only[vZ] at hL ⊢;exact LV hlen eI (k:=6) rfl ae ah pa (aqY g ha hb) hL
  by_cases h8:k=8
  .subst h8;simp only[Int.reduceEq,if_true,if_false,or_self] at hA;simp only[cN,mv,dI,pR] at hA;obtain⟨rfl,rfl,rfl,hx,hy,hz,_,_⟩:=hA;obtain⟨av,rfl,ha⟩:=mO hx;obtain⟨bv,rfl,hb⟩:=mO hy;obtain⟨cv,rfl,hc⟩:=mO hz;simp only[vZ] at hL ⊢;exact LV hlen eI (k:=8) rfl ae ah pa (auV g ha hb hc) hL
  exact absurd hk (by rintro (h|h|h|h|h)<;>contradiction)
theorem Zp(g:cH F ls){k:Int}(hk:k5 k)(a b c:Int)(l o:Bool)(sg:Int):aK S 45 [dR F ls,oD k a b c l o sg] (nI F ls k a b c l o sg):=aji (Xl g) (do5 g hk a b c l o sg) aje
theorem OU(g:cH F ls){k:Int}(hk:k5 k)(a b c:Int)(l o:Bool)(sg:Int):(∃e,e≠0/\nI F ls k a b c l o sg=qX e)\/ ∃M,nI F ls k a b c l o sg=kW F M/\cQ F M=0/\cS F ls k a b c l o sg=true/\ ∃L,qu F ls k a.toNat b.toNat c.toNat l o sg=some L/\M=lV L:=by
 unfold nI;cases hA:cS F ls k a b c l o sg
 .exact .inl ⟨2,ae,rfl⟩
 rw[aF rfl];cases hm:qu F ls k a.toNat b.toNat c.toNat l o sg with
 |none=>exact .inl ⟨4,ae,rfl⟩
 |some L=>
  unfold zi;by_cases rH:(400:Int)<(ls.length:Int)+(lJ k).1\/(100:Int)<((aw Let.aC ls/2:Nat):Int)+(lJ k).2
  .exact .inl ⟨7,ae,aF rH⟩
  refine .inr ⟨lV L,ay rH,?_,rfl,L,rfl,rfl⟩;have hlen:=g.len;have eI:=g.cr;have hF:=g.fing;have ne:=g.ne;have js:¬ls.length=0:=by have:=jf.2 ne;omega
  have dQ:aw Let.aC ls%2=0:=by have:=g.cz.ev;rwa[lB] at this
  have bU:=gG ls;have kT:EL (fun _=>true):=fun _ _ _=>rfl;have kC:EL (fun p=>p.l.aC):=fun p p' h=>by show(p.l.kind==2)=(p'.l.kind==2);rw[h]
  have pC:(pieces ls).countP (fun p=>p.l.aC)=aw Let.aC ls:=by rw[<- N4 (ls:=ls) Let.aC];show _=List.countP _ (List.map _ _);rw[Ao];rfl
  have lC:aw Let.aC (L.map Pc.l)=L.countP (fun p=>p.l.aC):=by show List.countP _ (List.map _ _)=_;rw[Ao];rfl
  have tT:∀l:List Pc,l.countP (fun _=>true)=l.length:=fun l=>af;have fin:L=[]\/Cert F L->(∀ {av bv cv:Nat},a=(av:Int)->b=(bv:Int)->c=(cv:Int)->av<ls.length->(bv<ls.length\/(k≠3/\k≠8))->(cv<ls.length\/k≠8)->cQ F (lV L)=0):=by
   intro hc av bv cv e1 e2 e3 ha hb tH;subst e1 e2 e3;simp only[vZ] at hm;have c1:=NN g kT hk ha hb tH hm;have c2:=NN g kC hk ha hb tH hm;rw[tT,tT,bU] at c1;rw[pC] at c2;rcases hc with rfl|hc
   .unfold cQ;have:lV []=[]:=rfl;rw[this];rw[ay (by simp[aw]),ay aa,aF rfl]
   exact hc.check aa (by rw[lC];omega) hF
  unfold cS at hA;by_cases h1:k=1
  .subst h1;simp only[Int.reduceEq,if_true,if_false,or_false,or_self] at hA;simp only[cN,mv,dI] at hA;obtain⟨rfl,rfl,rfl,hx,rfl,rfl⟩:=hA;obtain⟨av,rfl,ha⟩:=mO hx;exact fin (akm g ha (by simpa [qu] using hm)) rfl (bv:=0) rfl (cv:=0) rfl ha (.inr ⟨ae,ae⟩) (.inr ae)
  by_cases h3:k=3
  .subst h3;simp only[Int.reduceEq,if_true,if_false,or_false,or_self] at hA;simp only[cN,mv,dI,pR] at hA;obtain⟨rfl,rfl,rfl,hx,rfl,hy,au⟩:=hA;obtain⟨av,rfl,ha⟩:=mO hx;obtain⟨bv,rfl,hb⟩:=mO hy;exact fin (.inr (akn g ha hb aa (by simpa [qu] using hm))) rfl rfl (cv:=0) rfl ha (.inl hb) (.inr ae)
  by_cases h4:k=4
  .subst h4;simp only[Int.reduceEq,if_true,if_false,or_false,or_true,or_self] at hA;simp only[cN,mv,dI] at hA;obtain⟨rfl,rfl,rfl,hx,rfl,rfl⟩:=hA;obtain⟨av,rfl,ha⟩:=mO hx;exact fin (.inr (ako g ha (by simpa [qu] using hm))) rfl (bv:=0) rfl (cv:=0) rfl ha (.inr ⟨ae,ae⟩) (.inr ae)
  by_cases h6:k=6
  .subst h6;simp only[Int.reduceEq,if_true,if_false,or_true,or_self] at hA;simp only[cN,mv,dI,pR] at hA;obtain⟨rfl,rfl,rfl,hx,rfl,hy,au⟩:=hA;obtain⟨av,rfl,ha⟩:=mO hx;obtain⟨bv,rfl,hb⟩:=mO hy;exact fin (.inr (akp g ha hb (by simpa [qu] using hm))) rfl rfl (cv:=0) rfl ha (.inr ⟨ae,ae⟩) (.inr ae)
  by_cases h8:k=8
  .subst h8;simp only[Int.reduceEq,if_true,if_false,or_self] at hA;simp only[cN,mv,dI,pR] at hA;obtain⟨rfl,rfl,rfl,hx,hy,hz,_,_⟩:=hA;obtain⟨av,rfl,ha⟩:=mO hx;obtain⟨bv,rfl,hb⟩:=mO hy;obtain⟨cv,rfl,hc⟩:=mO hz;exact fin (.inr (akq g ha hb hc (by simpa [qu] using hm))) rfl rfl rfl ha (.inl hb) (.inl hc)
  exact absurd hk (by rintro (h|h|h|h|h)<;>contradiction)
end
def rR(x y:aP):Bool:=decide (x.b<y.b)||(decide (x.b=y.b)&&decide (x.c<y.c))
def Dm(m:aP):Prop:=(0<=m.b/\m.b<=1000000)/\0<=m.c/\m.c<=1000000
theorem X1:Swo rR:=⟨fun a b h=>by unfold rR at*;simp at*;omega,fun a b c h k=>by unfold rR at*;simp at*;omega⟩
theorem akF(x y:aP)(hx:Dm x)(hy:Dm y):∃n:Int,aK S 138 [GW x,GW y] (ri n)/\(decide (n<0)=rR x y):=by
 obtain⟨⟨x1,x2⟩,x3,x4⟩:=hx;obtain⟨⟨y1,y2⟩,y3,y4⟩:=hy;have w1:IntKind.i64.wrap (x.b-y.b)=x.b-y.b:=vX aa aa;have w2:IntKind.i64.wrap (x.c-y.c)=x.c-y.c:=vX aa aa;cases hb:(x.b==y.b) with
 |true=>
  have e:x.b=y.b:=eq_of_beq hb;refine⟨x.c-y.c,?_,?_⟩
  .refine bh c138 ?_;simp only[go_sem,i138,bne,hb,w2]
  unfold rR;rw[Sc];simp;omega
 |false=>
  have e:¬x.b=y.b:=by simpa using hb
  refine⟨x.b-y.b,?_,?_⟩
  .refine bh c138 ?_;simp only[go_sem,i138,bne,hb,w1]
  unfold rR;rw[Sc];simp;omega
abbrev mP(o:List aP):List (List PV):=o.map aP.ps
theorem afb(o:List aP)(k:Nat)(v:aP):(mP o).set k v.ps=mP (o.set k v):=by simp[K9]
theorem ow(o:List aP):(mP o).length=o.length:=cD _
def KC(id g ty:Nat)(es:List aP)(aj:aA)(v:V)(ao:aA):Prop:=v=.tup []/\(∃ws:List aP,ao id=(g,some (.arr ty 7 (mP ws)))/\ws.Perm es/\tq rR ws 0 ws.length)/\Kept (· =id) aj ao
abbrev DN:V:=.one (.p (.fn 138 [] []))
theorem aoQ{al:Al}{aj:aA}{id g ty:Nat}{es:List aP}(o:al.ok id=true)(hl:es.length<=1000000)(Be:∀m∈es,Dm m)(hC:aj id=(g,some (.arr ty 7 (mP es)))):
  ∃v ao,iF S 192 [.one (.hsl id g 7 0 es.length),vi 0,vi es.length,DN] al aj v ao/\KC id g ty es aj v ao:=by
 have scm:S.shared 138=false:=ah;refine mA c192 (ig rfl) ?_;have w0:IntKind.i64.wrap (0+1)=((0+1:Nat):Int):=ae;simp only[go_sem,i192];refine cU (fun k ak ao=>ak 0=.one (.hsl id g 7 0 es.length)/\ak 1=vi 0/\ak 2=vi es.length/\ak 3=DN/\ak 8=vi ((k+1:Nat):Int)/\ ∃zs:List aP,ao id=(g,some (.arr ty 7 (mP zs)))/\zs.Perm es/\tq rR zs 0 (k+1)/\Kept (· =id) aj ao) 0 es.length (bl _) ?_ ?_
 .simp only[go_sem];exact⟨rfl,es,hC,.refl _,fun p q x y _ h1 h2=>aa,Kept.refl _ _⟩
 rintro k ak bQ hk ⟨h0,h1,h2,h3,h6,zs,hZ,hp,hs,dw⟩
 have mf:=hp.length_eq;by_cases au:k+1<es.length
 .have aL:((k+1:Nat):Int)<(es.length:Int):=aa;obtain⟨x,hx⟩:=aM (ls:=zs) (k:=k+1) aa;have sx:Dm x:=Be x (hp.mem_iff.1 (aU hx));simp only[go_sem,i192_l3,h2,h6,aL];refine cU (fun q ak ao=>ak 0=.one (.hsl id g 7 0 es.length)/\ak 1=vi 0/\ak 2=vi es.length/\ak 3=DN/\ak 8=vi ((k+1:Nat):Int)/\ak 9=vi ((k+1-q:Nat):Int)/\ ∃ws:List aP,ao id=(g,some (.arr ty 7 (mP ws)))/\yP rR zs ws x 0 (k+1) (k+1-q)/\Kept (· =id) aj ao) 0 (k+1) (bl _) ?_ ?_
  .simp only[go_sem,h0,h1,h2,h3,h6];exact⟨zs,hZ,yP.start (bl _) hx hs,dw⟩
  rintro q cZ bj hq ⟨k0,k1,k2,k3,k6,k7,ws,hW,hI,Gq⟩
  have jm:ws.length=es.length:=hI.perm.length_eq.trans mf;have wk:IntKind.i64.wrap (((k+1:Nat):Int)+1)=((k+1+1:Nat):Int):=cA (n:=k+1) aa;by_cases hj0:k+1-q=0
  .have e7:¬((0:Int)<((k+1-q:Nat):Int)):=aa;simp only[go_sem,i192_l1,i192_r2,k0,k1,k2,k3,k6,k7,e7,wk];refine⟨aH,aa,ws,hW,hI.perm.trans hp,hI.stop X1 (.inl hj0),Gq⟩
  obtain⟨j,hj⟩:∃j,k+1-q=j+1:=⟨k-q,aa⟩;have e7:((0:Int)<((j+1:Nat):Int)):=aa;obtain⟨y,hy⟩:=aM (ls:=ws) (k:=j) aa;have sy:Dm y:=Be y ((hI.perm.trans hp).mem_iff.1 (aU hy));rw[hj] at hI k7;have wj:IntKind.i64.wrap (((j+1:Nat):Int)-1)=(j:Int):=by rw[yI aa];omega
  have Bg:=JY hI.at';have CV:=JY hy;have j1:j+1<es.length:=by have:=hI.le;omega
  have j2:j<es.length:=aa;obtain⟨n,pl,hn⟩:=akF x y sx sy;cases jG:rR x y with
  |false=>
   rw[jG] at hn;have Et:¬(n<0):=by simpa using hn
   simp only[go_sem,i192_l1,i192_r2,k0,k1,k2,k3,k6,k7,e7,wk,wj,hW,Bg,CV,aP.ps,j1,j2,o,scm,O5 pl,Et];refine⟨aH,aa,ws,rfl,hI.perm.trans hp,hI.stop X1 (.inr ⟨y,aa,hy,jG⟩),Gq⟩
  |true=>
   rw[jG] at hn;have Et:n<0:=by simpa using hn
   have wM:=hI.step X1 (bl _) hy jG;have hjj:¬(j+1=j):=aa;have l1:j+1<ws.length:=aa;have l2:j<ws.length:=aa;simp only[go_sem,i192_l1,i192_r2,k0,k1,k2,k3,k6,k7,e7,wj,hW,Bg,CV,aP.ps,j1,j2,l1,hjj,o,scm,O5 pl,Et,pQ,ow];have Nk:k+1-(q+1)=j:=aa;refine⟨aH,aH,aa,by rw[Nk],(ws.set (j+1) y).set j x,by rw[<- afb,<- afb];rfl,by rw[Nk];exact wM,(Gq.dJ rfl _).dJ rfl _⟩
 have aL:¬(((k+1:Nat):Int)<(es.length:Int)):=aa;simp only[go_sem,i192_l3,h2,h6,aL];exact⟨rfl,⟨zs,hZ,hp,hs.mono (.inl aa)⟩,dw⟩
theorem arf{al:Al}{aj:aA}{id g ty:Nat}{es:List aP}(o:al.ok id=true)(f1:al.fs.contains 192=true)(hl:es.length<=12)(Be:∀m∈es,Dm m)(hC:aj id=(g,some (.arr ty 7 (mP es))))(lim:Int):
  ∃v ao,iF S 171 [.one (.hsl id g 7 0 es.length),vi 0,vi es.length,vi lim,DN] al aj v ao/\KC id g ty es aj v ao:=by
 refine mA c171 (ig rfl) ?_;have w0:IntKind.i64.wrap ((es.length:Int)-0)=(es.length:Int):=by rw[Int.sub_zero];exact vX aa aa
 have iT:(es.length:Int)<=12:=aa;simp only[go_sem,i171];refine rm ?_;simp only[go_sem,i171_l1,w0,iT,s192];refine AS hC (by rfl) (.inr ⟨o,by rw[show S.sites 192=[192] by kernel_rfl];simp only[mw,pP,f1,vY]⟩) (P:=KC id g ty es aj) (fun qC h1 _=>aoQ h1 aa Be hC) fun v ao hP=>?_;obtain⟨rfl,h2⟩:=hP;simp only[go_sem];exact⟨rfl,h2⟩
theorem aue{al:Al}{aj:aA}{id g ty:Nat}{es:List aP}(o:al.ok id=true)(f1:(S.sites 171).all al.fs.contains=true)(hl:es.length<=12)(Be:∀m∈es,Dm m)(hC:aj id=(g,some (.arr ty 7 (mP es)))):
  ∃v ao,iF S 137 [.one (.hsl id g 7 0 es.length),DN] al aj v ao/\KC id g ty es aj v ao:=by
 obtain⟨k,pb⟩:=SQ es.length aa;have wu:IntKind.u64.wrap (es.length:Int)=(es.length:Int):=by
  have e:IntKind.u64.wrap (es.length:Int)=(es.length:Int)%18446744073709551616:=by unfold IntKind.wrap;rfl
  rw[e];omega
 refine mA c137 (ig rfl) ?_;have sbl:S.shared 134=false:=ah;simp only[go_sem,i137,wu,sbl,DX pb,s171];refine AS hC (by rfl) (.inr ⟨o,f1⟩) (P:=KC id g ty es aj) (fun qC h1 h2=>arf h1 (by rw[h2];kernel_rfl) hl Be hC k) fun v ao hP=>?_;obtain⟨rfl,h2⟩:=hP;simp only[go_sem];exact⟨rfl,h2⟩
theorem aoJ(o:List Int)(x:Int)(hl:o.length<=1000000):aK S 106 [.one (.p (.sl (iP o))),vi x] (ri (match (List.range o.length).find? (nX o x) with|some k=>(k:Int)|none=> -1)):=by
 refine bh c106 ?_;simp only[go_sem,i106];refine cU (fun k ak aj=>ak 0=.one (.p (.sl (iP o)))/\ak 1=vi x/\ak 7=vi o.length/\ak 8=vi k/\ ∀j,j<k->nX o x j=false) 0 o.length (bl _) ?_ ?_
 .simp only[go_sem];exact⟨rfl,fun j hj=>absurd hj (nE j)⟩
 rintro k ak aj hk ⟨h0,h1,h7,h8,hn⟩
 by_cases au:k<o.length
 .have aL:((k:Int)<(o.length:Int)):=aa;obtain⟨y,hy⟩:=aM au;have hJ:=wW hy;have w1:=cA (n:=k) aa;have qP:nX o x k=(y==x):=by simp[nX,hy]
  cases hb:(y==x) with
  |true=>
   have xR:(x==y)=true:=by have:=dI.1 hb;simp[this]
   rw[hb] at qP;have hf:=Cp (p:=nX o x) au hn qP;simp only[go_sem,i106_l1,h0,h1,h7,h8,aL,hJ,xR,hf]
  |false=>
   have xR:(x==y)=false:=by
    have:¬y=x:=by simpa using hb
    simp;exact fun h=>this h.symm
   rw[hb] at qP;have Et:∀j,j<k+1->nX o x j=false:=fun j hj=>by
    rcases mU.1 hj with h|rfl
    .exact hn j h
    exact qP
   simp only[go_sem,i106_l1,h0,h1,h7,h8,au,aL,hJ,xR,w1];exact Et
 have:k=o.length:=aa;subst this;have hf:=IU (p:=nX o x) hn;simp only[go_sem,i106_l1,i106_r2,h7,h8,dT,hf]
theorem aai(o:List Int)(x:Int)(hl:o.length<=1000000):aK S 94 [.one (.p (.sl (iP o))),vi x] (rb (o.contains x)):=by
 have pi:=aoJ o x hl;refine bh c94 ?_;cases hm:o.contains x with
 |true=>
  have oZ:x∈o:=by simpa using hm
  obtain⟨k,hk⟩:=je oZ;have ef:=(aW.1 hk).1;cases hf:(List.range o.length).find? (nX o x) with
  |none=>have:=K5.1 hf k (gA.2 ef);simp[nX,hk] at this
  |some j=>rw[hf] at pi;have sI:(0:Int)<=(j:Int):=aa;simp only[go_sem,i94,s106,dY pi,sI]
 |false=>
  have oZ:x∉o:=by simpa using hm
  cases hf:(List.range o.length).find? (nX o x) with
  |some j=>
   have h1:=OC hf;unfold nX at h1;cases ho:o[j]? with
   |none=>rw[ho] at h1;cases h1
   |some y=>
    rw[ho] at h1;have:y=x:=by simpa using h1
    subst this;exact absurd (aU ho) oZ
  |none=>rw[hf] at pi;have sI:¬(0:Int)<= -1:=ae;simp only[go_sem,i94,s106,dY pi,sI]
def GU(a b:aP):Bool:=(a.k==b.k)&&((a.a==b.a)&&((a.b==b.b)&&((a.c==b.c)&&((a.l==b.l)&&((a.o==b.o)&&(a.s==b.s))))))
theorem alN(x y:aP):vh [true,true,true,true,false,false,true] [.p (.int .i64 x.k),.p (.int .i64 x.a),.p (.int .i64 x.b),.p (.int .i64 x.c),.p (.bool x.l),.p (.bool x.o),.p (.int .i64 x.s)] [.p (.int .i64 y.k),.p (.int .i64 y.a),.p (.int .i64 y.b),.p (.int .i64 y.c),.p (.bool y.l),.p (.bool y.o),.p (.int .i64 y.s)]=some (GU x y):=by
 have e:∀a b:Int,uv true (.int .i64 a) (.int .i64 b)=some (a==b):=fun a b=>by simp[uv]
 have e2:∀a b:Bool,uv false (.bool a) (.bool b)=some (a==b):=fun a b=>by simp[uv]
 simp only[vh,GU,e,e2];cases (x.k==y.k)<;>cases (x.a==y.a)<;>cases (x.b==y.b)<;>cases (x.c==y.c)<;>cases (x.l==y.l)<;>cases (x.o==y.o)<;>cases (x.s==y.s)<;>rfl
theorem aqe{a b:aP}(h:GU a b=true):a=b:=by cases a;cases b;unfold GU at h;simp only[cN,dI] at h;obtain⟨h1,h2,h3,h4,h5,h6,h7⟩:=h;subst h1 h2 h3 h4 h5 h6 h7;rfl
theorem aqf(a:aP):GU a a=true:=by unfold GU;simp
theorem aoK(ms:List aP)(x:aP)(hm:ms.length<=1000000):∃i:Int,((0<=i->x∈ms)/\(i<0->x∉ms))/\aK S 170 [.one (.p (.sl (mP ms))),GW x] (ri i):=by
 have:∃r,(∃i:Int,((0<=i->x∈ms)/\(i<0->x∉ms))/\r=ri i)/\aK S 170 [.one (.p (.sl (mP ms))),GW x] r:=by
  refine HS rfl c170 (ig rfl) ?_;simp only[go_sem,i170];refine cU (fun k ak aj=>ak 0=.one (.p (.sl (mP ms)))/\ak 3=.one (.aY 10880000000 1 0)/\aj 10880000000=(1,some (.var [.p (.int .i64 x.k),.p (.int .i64 x.a),.p (.int .i64 x.b),.p (.int .i64 x.c),.p (.bool x.l),.p (.bool x.o),.p (.int .i64 x.s)]))/\ak 7=vi ms.length/\ak 8=vi k/\x∉ms.take k) 0 ms.length (bl _) ?_ ?_
  .simp only[go_sem];simp
  rintro k ak aj hk ⟨h0,h3,hB,h7,h8,Gt⟩
  by_cases au:k<ms.length
  .have aL:((k:Int)<(ms.length:Int)):=aa;obtain⟨m,lM⟩:=aM au;have Es:=JY lM;have w1:=cA (n:=k) aa;have he:=alN x m;cases hb:GU x m with
   |true=>rw[hb] at he;simp only[go_sem,i170_l1,h0,h3,hB,h7,h8,aL,Es,aP.ps,he];exact⟨aH,_,⟨_,⟨fun _=>(aqe hb)▸aU lM,fun h=>aa⟩,rfl⟩,rfl⟩
   |false=>
    rw[hb] at he;simp only[go_sem,i170_l1,h0,h3,hB,h7,h8,au,aL,Es,aP.ps,w1,he];refine⟨aH,fun h=>?_⟩;rw[kX,lM] at h;rcases eD.1 h with h|h
    .exact Gt h
    simp only[Option.toList_some,lD] at h;rw[h,aqf] at hb;cases hb
  have:k=ms.length:=aa;subst this;simp only[go_sem,i170_l1,i170_r2,h7,h8,dT];exact⟨_,⟨_,⟨fun h=>absurd h ae,fun _=>by rwa[jQ] at Gt⟩,rfl⟩,rfl⟩
 obtain⟨_,⟨i,h1,rfl⟩,h⟩:=this;exact⟨i,h1,h⟩
theorem aaj(ms:List aP)(x:aP)(hm:ms.length<=1000000):∃b,((b=true->x∈ms)/\(b=false->x∉ms))/\aK S 136 [.one (.p (.sl (mP ms))),GW x] (rb b):=by obtain⟨i,hi,pi⟩:=aoK ms x hm;refine⟨decide (0<=i),⟨fun h=>hi.1 (nG h),fun h=>hi.2 (by have:=fS h;omega)⟩,?_⟩;refine bh c136 ?_;simp only[go_sem,i136,s170,dY pi]
abbrev fK:Nat:=42
abbrev edT:Nat:=3
def Ki(k:Int)(av:Nat)(m:aP):Prop:=m.k=k/\m.a=(av:Int)/\m.l=false/\m.o=false/\m.s=0/\Dm m
theorem lI2{l:List Int}(h:l.length=2):∃a b,l=[a,b]:=by
 match l,h with
 |[a,b],_=>exact⟨a,b,rfl⟩
theorem lI3{l:List Int}(h:l.length=3):∃a b c,l=[a,b,c]:=by
 match l,h with
 |[a,b,c],_=>exact⟨a,b,c,rfl⟩
def Kd(aj:aA)(v:V)(ao:aA):Prop:=v=.tup []/\ao=aj
theorem VI{Q:dD}{al:Al}{ak:Env}{aj:aA}{os:List bG}{d:Option Nat}{f:Nat}{vs:List V}{P:V->aA->Prop}(qR:(vs.map (jc aj)).flatten=[])(hh:al=.all\/(S.sites f).all al.fs.contains=true)
  (h:∀qC,qC.fs=S.sites f->∃v ao,iF S f vs qC aj v ao/\P v ao) (hK:∀v ao,P v ao->RN S al os Q (put ak d v) ao):gP S al (.sc f vs) d os Q ak aj:=by
 refine qK (P:=P) ?_ (h _ rfl) hK;rcases hh with rfl|h2
 .rfl
 refine holds_of ?_ h2;show al.ft (vs.map (jc aj)).flatten=true;rw[qR];rfl
theorem aoP{al:Al}{aj:aA}:∃v ao,iF S 192 [.one (.p .nils),vi 0,vi 0,DN] al aj v ao/\Kd aj v ao:=by refine mA c192 (ig rfl) ?_;have w0:IntKind.i64.wrap 1=1:=ae;have hz:¬((1:Int)<0):=ae;simp only[go_sem,i192];refine rm ?_;simp only[go_sem,i192_l3,w0,hz];first|done|exact⟨rfl,rfl⟩|trace_state
theorem ard{al:Al}{aj:aA}(f1:al.fs.contains 192=true)(lim:Int):∃v ao,iF S 171 [.one (.p .nils),vi 0,vi 0,vi lim,DN] al aj v ao/\Kd aj v ao:=by refine mA c171 (ig rfl) ?_;have w0:IntKind.i64.wrap (0-0)=0:=ae;have iT:((0:Int)<=12):=ae;simp only[go_sem,i171];refine rm ?_;simp only[go_sem,i171_l1,w0,iT,s192];refine VI (by rfl) (.inr (by rw[show S.sites 192=[192] by kernel_rfl];simp only[mw,pP,f1,vY])) (P:=Kd aj) (fun qC _=>aoP) fun v ao hP=>?_;obtain⟨rfl,h2⟩:=hP;simp only[go_sem];exact⟨rfl,h2⟩
theorem aud{al:Al}{aj:aA}(f1:(S.sites 171).all al.fs.contains=true):∃v ao,iF S 137 [.one (.p .nils),DN] al aj v ao/\Kd aj v ao:=by obtain⟨k,pb⟩:=SQ 0 aa;have wu:IntKind.u64.wrap ((0:Nat):Int)=((0:Nat):Int):=ae;refine mA c137 (ig rfl) ?_;have sbl:S.shared 134=false:=ah;simp only[go_sem,i137,wu,sbl,DX pb,s171];refine VI (by rfl) (.inr f1) (P:=Kd aj) (fun qC h2=>ard (by rw[h2];kernel_rfl) k) fun v ao hP=>?_;obtain⟨rfl,h2⟩:=hP;simp only[go_sem];exact⟨rfl,h2⟩
def jL(kk:Int)(av:Nat)(D:List Nat)(ms:List aP):Prop:=
 (kk≠8->∀b:Nat,av<b->D.length=2->(∃d∈D,d/2=av)->(∃d∈D,d/2=b)->(⟨kk,av,b,0,false,false,0⟩:aP)∈ms)/\
 (kk=8->∀b c:Nat,av<b->b<c->D.length=3->(∃d∈D,d/2=av)->(∃d∈D,d/2=b)->(∃d∈D,d/2=c)->(⟨kk,av,b,c,false,false,0⟩:aP)∈ms)
theorem jL.app{kk:Int}(h:jL kk av D ms)(x:List aP):jL kk av D (ms++x):=
 ⟨fun a b c d e f=>Fl _ (h.1 a b c d e f),fun a b c d e f g i j=>Fl _ (h.2 a b c d e f g i j)⟩
theorem au7(h:D.length=2){x y:Nat}(hx:x∈D)(hy:y∈D)(aI:x≠y):∀z∈D,z=x\/z=y:=by
 match D,h with
 |[a,b],_=>intro z hz;simp only[cM,gC,or_false] at hx hy hz;omega
theorem auM(h:D.length=3){x y w:Nat}(hx:x∈D)(hy:y∈D)(hw:w∈D)(n1:x≠y)(n2:x≠w)(n3:y≠w):∀z∈D,z=x\/z=y\/z=w:=by
 match D,h with
 |[a,b,c],_=>intro z hz;simp only[cM,gC,or_false] at hx hy hw hz;omega
theorem jL.low{kk:Int}{d:Nat}(hd:d∈D)(h:d/2<av):jL kk av D ms:=by
 constructor
 .rintro _ b eH h2 ⟨x,hx,ex⟩ ⟨y,hy,ey⟩
  have:=au7 h2 hx hy aa d hd;omega
 rintro _ b c eH Jb h3 ⟨x,hx,ex⟩ ⟨y,hy,ey⟩ ⟨w,hw,ew⟩
 have:=auM h3 hx hy hw aa aa aa d hd;omega
theorem jL.far{kk:Int}(h:D.length=1\/3<D.length):jL kk av D ms:=
 ⟨fun _ b _ h2=>aa,fun _ b c _ _ h3=>aa⟩
theorem jL.two8{kk:Int}(h:D.length=2)(h8:kk=8):jL kk av D ms:=
 ⟨fun h=>absurd h8 h,fun _ b c _ _ h3=>aa⟩
theorem jL.three{kk:Int}(h:D.length=3)(h8:kk≠8):jL kk av D ms:=
 ⟨fun _ b _ h2=>aa,fun h=>absurd h h8⟩
theorem jL.two{kk:Int}{y0 y1:Int}(h:D.length=2)(hp:[y0,y1].Perm (D.map fun d=>((d/2:Nat):Int)))(hs:tq rQ [y0,y1] 0 2)(h8:kk≠8)(hm:(⟨kk,av,y1,0,false,false,0⟩:aP)∈ms):jL kk av D ms:=by
 refine⟨?_,fun h=>absurd h h8⟩;rintro _ b eH _ ⟨x,hx,ex⟩ ⟨y,hy,ey⟩
 have h1:((av:Nat):Int)∈[y0,y1]:=hp.mem_iff.2 (dp.2 ⟨x,hx,by rw[ex]⟩);have h2:((b:Nat):Int)∈[y0,y1]:=hp.mem_iff.2 (dp.2 ⟨y,hy,by rw[ey]⟩);have h3:=hs 0 1 y0 y1 aa aa aa rfl rfl;simp only[decide_eq_false_iff_not] at h3;simp only[cM,gC,or_false] at h1 h2;have:y1=(b:Int):=aa;rw[<- this];exact hm
theorem jL.thr{kk:Int}{y0 y1 y2:Int}(h:D.length=3)(hp:[y0,y1,y2].Perm (D.map fun d=>((d/2:Nat):Int)))(hs:tq rQ [y0,y1,y2] 0 3)(hm:(⟨kk,av,y1,y2,false,false,0⟩:aP)∈ms):jL kk av D ms:=by
 refine⟨fun _ b _ h2=>aa,?_⟩;rintro _ b c eH Jb _ ⟨x,hx,ex⟩ ⟨y,hy,ey⟩ ⟨w,hw,ew⟩
 have h1:((av:Nat):Int)∈[y0,y1,y2]:=hp.mem_iff.2 (dp.2 ⟨x,hx,by rw[ex]⟩);have h2:((b:Nat):Int)∈[y0,y1,y2]:=hp.mem_iff.2 (dp.2 ⟨y,hy,by rw[ey]⟩);have h4:((c:Nat):Int)∈[y0,y1,y2]:=hp.mem_iff.2 (dp.2 ⟨w,hw,by rw[ew]⟩);have h3:=hs 0 1 y0 y1 aa aa aa rfl rfl;have h5:=hs 1 2 y1 y2 aa aa aa rfl rfl;simp only[decide_eq_false_iff_not] at h3 h5;simp only[cM,gC,or_false] at h1 h2 h4;have k1:y1=(b:Int):=aa;have k2:y2=(c:Int):=aa;rw[<- k1,<- k2];exact hm
theorem afw{l:List aP}{x:aP}(h:l.Nodup)(hx:x∉l):(l++[x]).Nodup:=by rw[Dz];refine⟨h,af,fun a ha b hb e=>?_⟩;rw[lD.1 hb] at e;exact hx (e▸ha)
theorem aul{ws:List aP}{k:Int}(aq:∀m∈ws,Ki k av m)(hn:ws.Nodup)(hs:tq rR ws 0 ws.length):ws.Pairwise fun x y=>rR x y=true:=by
 rw[HK];intro i j hi hj fm;have h1:=hs i j ws[i] ws[j] (bl _) fm hj (my hi) (my hj);have h2:ws[i]≠ws[j]:=fun e=>by have:=(List.getElem_inj hn).1 e;omega
 have k1:=aq _ (Yv hi);have k2:=aq _ (Yv hj);generalize ws[i]=x at*;generalize ws[j]=y at*;cases hb:rR x y with
 |true=>rfl
 |false=>exfalso;apply h2;obtain⟨a1,a2,a3,a4,a5,_⟩:=k1;obtain⟨c1,c2,c3,c4,c5,_⟩:=k2;cases x;cases y;unfold rR at h1 hb;simp only[Oz,Bool.and_eq_false_iff,decide_eq_false_iff_not] at h1 hb a1 a2 a3 a4 a5 c1 c2 c3 c4 c5;simp only[aP.mk.injEq];refine⟨aa,aa,aa,aa,by rw[a3,c3],by rw[a4,c4],aa⟩
theorem akT(g:cH F ls)(kk:Int)(ha:av<ls.length):∃ms:List aP,(ms.length<=2/\(∀m∈ms,Ki kk av m)/\(∀j,j<2->jL kk av (kM F ls (2*av+j)).cG ms)/\ms.Pairwise fun x y=>rR x y=true)/\aK S 110 [.one (.p (eQ F ls)),vi kk,vi av] (.one (aT fK 7 (mP ms))):=by
 have hlen:=g.len;have hN:nD ls<=1600:=by have:=wC ls ls.length;unfold nD;have:(aB ls).length<=ls.length:=wC ls ls.length;omega
 suffices h:∃r,(∃ms:List aP,(ms.length<=2/\(∀m∈ms,Ki kk av m)/\(∀j,j<2->jL kk av (kM F ls (2*av+j)).cG ms)/\ms.Pairwise fun x y=>rR x y=true)/\r=.one (aT fK 7 (mP ms)))/\aK S 110 [.one (.p (eQ F ls)),vi kk,vi av] r by obtain⟨r,⟨ms,h1,rfl⟩,h2⟩:=h;exact⟨ms,h1,h2⟩
 refine HS rfl c110 (ig rfl) ?_;simp only[go_sem,i110];refine cU (fun k ak aj=>ak 0=.one (.p (eQ F ls))/\ak 1=vi kk/\ak 2=vi av/\ak 14=vi k/\ ∃ms c,ms.length<=k/\(∀m∈ms,Ki kk av m)/\(∀j,j<k->jL kk av (kM F ls (2*av+j)).cG ms)/\ms.Nodup/\ak 7=.one c/\grown 7041280192 fK 7 (mP ms) (.one c) aj) 0 2 (bl _) ?_ ?_
 .simp only[go_sem];exact⟨rfl,[],.p .nils,bJ _,fun m h=>(by cases h),fun j h=>absurd h (nE _),uh,rfl,grown.nil⟩
 rintro k ak aj hk ⟨h0,h1,h2,lW,ms,c,yg,aq,ym,eZ,h7,gm⟩
 by_cases au:k<2
 .have aL:((k:Int)<2):=aa;obtain⟨j,Gm,mM,A3⟩:=Vp g (d:=2*av+k) aa;have Wc:=aU mM;have CH:=jY Gm;have Gk:=Vs mM;have m2:=ue (a:=av) aa;have m3:=wrap_add (a:=2*av) (b:=k) aa;have w1:=cA (n:=k) aa;have hdl:2*av+k<(og F ls).length:=by rw[WY];omega
  have hdd:=Vq Wc;have anC:=Vr g.ok Wc;obtain⟨_,_,hdm,_⟩:=abV (F:=F) (ls:=ls) (d:=2*av+k) aa;have nxt_:∀NO:List aP,jL kk av (kM F ls (2*av+k)).cG (ms++NO)->∀j,j<k+1->jL kk av (kM F ls (2*av+j)).cG (ms++NO):=fun NO h j hj=>by
   by_cases e:j=k
   .rw[e];exact h
   exact(ym j aa).app NO
  have GX:jL kk av (kM F ls (2*av+k)).cG ms->∀j,j<k+1->jL kk av (kM F ls (2*av+j)).cG ms:=fun h=>by have:=nxt_ [] (by rw[jP];exact h);rwa[jP] at this
  generalize hfe:kM F ls (2*av+k)=f at*;simp only[go_sem,i110_l4,h0,h2,lW,aL,m2,m3,CH,Gk,Fc.ps];refine⟨aH,?_⟩;obtain⟨g9,hg9⟩:∃g9,(aj 7040321024).fst+1=g9:=⟨_,rfl⟩;rw[hg9];refine cU (fun q cZ bj=>cZ 0=.one (.p (eQ F ls))/\cZ 1=vi kk/\cZ 2=vi av/\cZ 14=vi k/\cZ 7=.one c/\grown 7041280192 fK 7 (mP ms) (.one c) bj/\cZ 9=.one (.aY 7040321024 g9 0)/\bj 7040321024=(g9,some (.var (f.ps.map .p)))/\cZ 34=.one (.p (.sl (nP f.cG)))/\cZ 35=vi f.cG.length/\cZ 36=vi q/\(0<q->f.cG.length<=3)/\ ∃zs ce,zs.length=q/\zs=(f.cG.take q).map (fun d=>((d/2:Nat):Int))/\(∀z∈zs,0<=z/\z<=1000000)/\cZ 10=.one ce/\grown 7040704256 edT 1 (iP zs) (.one ce) bj) 0 f.cG.length (bl _) ?_ ?_
  .have gm':grown 7041280192 fK 7 (mP ms) (.one c) (dJ (dJ aj 7040321024 (g9,some (Ob.var [C.p (PV.bool false),C.p PV.nils,C.p PV.nils,C.p PV.nils,C.p (PV.bool false)]))) 7040321024 (g9,some (Ob.var (f.ps.map .p)))):=gm.of_eq ((bd ae).trans (bd ae));simp only[go_sem,h0,h1,h2,h7,lW,Fc.ps] at gm' ⊢;refine⟨gm',rfl,fun h=>h.elim,[],.p .nils,rfl,rfl,fun z h=>(by cases h),rfl,grown.nil⟩
  rintro q cZ bj hq ⟨p0,p1,p2,vN,p7,F3,p9,b9,EX,NV,NW,h3,zs,ce,mf,JG,hzb,Dd,gz⟩
  simp only[Fc.ps,dK,j7] at b9;by_cases sQ:q<f.cG.length
  .have Wt:((q:Int)<(f.cG.length:Int)):=aa;obtain⟨d,hd⟩:=aM sQ;have kN:=jY hd;have hdb:=hdd d (aU hd);have wq:=wrap_small (n:=d/2) aa;have w2:=cA (n:=q) aa;by_cases c1:d/2<av
   .have c1':(((d/2:Nat):Int)<(av:Int)):=aa;simp only[go_sem,i110_l1,i110_r3,p0,p1,p2,vN,p7,p9,Dd,EX,NV,NW,b9,sQ,Wt,kN,eo,fv,wq,c1',w1,au];exact⟨ms,c,aa,aq,GX (.low (aU hd) c1),eZ,rfl,F3⟩
   have c1':¬(((d/2:Nat):Int)<(av:Int)):=aa;by_cases c2:3<f.cG.length
   .have c2':((3:Int)<(f.cG.length:Int)):=aa;simp only[go_sem,i110_l1,i110_r3,p0,p1,p2,vN,p7,p9,Dd,EX,NV,NW,b9,sQ,Wt,kN,eo,fv,wq,c1',c2',w1,au];exact⟨ms,c,aa,aq,GX (.far (.inr c2)),eZ,rfl,F3⟩
   have c2':¬((3:Int)<(f.cG.length:Int)):=aa;simp only[go_sem,i110_l1,p2,p9,Dd,EX,NV,NW,b9,Wt,kN,eo,fv,wq,c1',c2'];refine sB (xs:=[[.int .i64 ((d/2:Nat):Int)]]) (gz.of_eq (bd ae)) (by simp only[fh,aN,if_true];rfl) (.inl rfl) (by simp only[wX,dh,ez];omega) fun c2 fT gz2 hb=>?_;have q9:=hb 7040321024 ae ae;have zo:=F3.of_eq ((hb 7041280192 ae ae).trans (bd ae));simp only[go_sem,b9] at q9;simp only[go_sem,p0,p1,p2,vN,p7,p9,EX,NV,NW,q9,w2,Fc.ps];refine⟨sQ,zo,fun _=>aa,zs++[((d/2:Nat):Int)],c2,by simp;omega,by rw[JG,kX,hd];simp,fun z hz=>?_,rfl,?_⟩
   .rcases eD.1 hz with h|h
    .exact hzb z h
    have:=lD.1 h;omega
   rw[show iP (zs++[((d/2:Nat):Int)])=iP zs++[[.int .i64 ((d/2:Nat):Int)]] by simp[iP]];exact gz2
  have:q=f.cG.length:=aa;subst this;have anF:0<f.cG.length:=OE hdm;have qd:=h3 anF;rcases gz with ⟨e,_⟩|⟨_,gg,e,bz⟩
  .have hz0:(iP zs).length=0:=by rw[e];rfl
   rw[wX] at hz0;omega
  cases e;have sS:S.shared 135=true:=ah;simp only[go_sem,i110_l1,i110_r2,Dd,NV,NW,dT,sS,wX];refine AS bz (by rfl) (.inl rfl) (P:=Ff rQ 7040704256 gg edT zs bj) (fun qC h1 h2=>XX h1 (by rw[h2];kernel_rfl) aa bz) fun v fT hP=>?_;obtain⟨rfl,⟨ws,bw,pw,sw⟩,kw⟩:=hP;have zo:=F3.of_eq (kw 7041280192 ae);have jm:=pw.length_eq;have nV:ws.Perm (f.cG.map fun d=>((d/2:Nat):Int)):=by rw[JG,jQ] at pw;exact pw
  have hwb:∀z∈ws,0<=z/\z<=1000000:=fun z hz=>hzb z (pw.mem_iff.1 hz);rw[mf] at jm;clear pw hzb b9 bz;clear h3 sQ hdd anC Wc hdm hq JG;generalize vx:f.cG.length=n at*;have s120:S.shared 136=false:=ah;have Ae:(((2:Nat):Int)==2)=true:=ae;have q12:(((1:Nat):Int)==2)=false:=ae;have q32:(((3:Nat):Int)==2)=false:=ae;have q13:(((1:Nat):Int)==3)=false:=ae;have tW:(((2:Nat):Int)==3)=false:=ae;have q33:(((3:Nat):Int)==3)=true:=ae;rcases(by omega:n=1\/n=2\/n=3) with rfl|rfl|rfl
  .simp only[go_sem,i110_r3,p0,p1,p2,vN,p7,Dd,mf,q12,q13,w1,au];exact⟨ms,c,aa,aq,GX (.far (.inl vx)),eZ,rfl,zo.of_eq ((bd ae).trans (bd ae))⟩
  .obtain⟨y0,y1,rfl⟩:=lI2 jm;by_cases h8:kk=8
   .have e8:(kk !=8)=false:=by rw[h8];rfl
    simp only[go_sem,i110_r3,p0,p1,p2,vN,p7,Dd,mf,Ae,tW,e8,w1,au];exact⟨ms,c,aa,aq,GX (.two8 vx h8),eZ,rfl,zo.of_eq ((bd ae).trans (bd ae))⟩
   have e8:(kk !=8)=true:=by simpa using h8
   simp only[go_sem,i110_r3,p1,p2,p7,Dd,mf,Ae,e8,bw];obtain⟨bb,uD,pcv⟩:=aaj ms ⟨kk,av,y1,0,false,false,0⟩ aa;have Xs:aK S 136 [.one (.p (.sl (mP ms))),.agg [.p (.int .i64 kk),.p (.int .i64 av),.p (.int .i64 y1),.p (.int .i64 0),.p (.bool false),.p (.bool false),.p (.int .i64 0)]] (rb bb):=pcv;obtain⟨r,snB,hr⟩:=zo.KD;simp only[go_sem,s120,snB,dA Xs];cases bb with
   |true=>simp only[go_sem,p0,p1,p2,vN,p7,w1,au];exact⟨ms,c,aa,aq,GX (.two vx nV sw h8 (uD.1 rfl)),eZ,rfl,zo.of_eq (by simp only[aN,Nat.reduceEqDiff,if_false])⟩
   |false=>
    simp only[go_sem,p7];refine sB (xs:=[aP.ps ⟨kk,av,y1,0,false,false,0⟩]) (zo.of_eq (by simp only[aN,Nat.reduceEqDiff,if_false])) (by simp only[fh,aN,if_true];rfl) (.inl rfl) (by simp only[ow,dh,ez];omega) fun c2 ij zq jV=>?_;simp only[go_sem,p0,p1,p2,vN,w1,au];refine⟨ms++[⟨kk,av,y1,0,false,false,0⟩],c2,by simp;omega,fun m hm=>?_,nxt_ _ (.two vx nV sw h8 af),afw eZ (uD.2 rfl),rfl,by rw[show mP (ms++[⟨kk,av,y1,0,false,false,0⟩])=mP ms++[aP.ps ⟨kk,av,y1,0,false,false,0⟩] by simp[mP]];exact zq⟩;rcases eD.1 hm with h|h
    .exact aq m h
    have:=lD.1 h;subst this;exact⟨rfl,rfl,rfl,rfl,rfl,hwb y1 af,af⟩
  obtain⟨y0,y1,y2,rfl⟩:=lI3 jm;by_cases h8:kk=8
  .have e8:(kk==8)=true:=by rw[h8];rfl
   simp only[go_sem,i110_r3,p1,p2,p7,Dd,mf,q32,q33,e8,bw];obtain⟨bb,uD,pcv⟩:=aaj ms ⟨kk,av,y1,y2,false,false,0⟩ aa;have Xs:aK S 136 [.one (.p (.sl (mP ms))),.agg [.p (.int .i64 kk),.p (.int .i64 av),.p (.int .i64 y1),.p (.int .i64 y2),.p (.bool false),.p (.bool false),.p (.int .i64 0)]] (rb bb):=pcv;obtain⟨r,snB,hr⟩:=zo.KD;refine⟨aH,?_⟩;simp only[go_sem,s120,snB,dA Xs];cases bb with
   |true=>simp only[go_sem,p0,p1,p2,vN,p7,w1,au];exact⟨ms,c,aa,aq,GX (.thr vx nV sw (uD.1 rfl)),eZ,rfl,zo.of_eq (by simp only[aN,Nat.reduceEqDiff,if_false])⟩
   |false=>
    simp only[go_sem,p7];refine sB (xs:=[aP.ps ⟨kk,av,y1,y2,false,false,0⟩]) (zo.of_eq (by simp only[aN,Nat.reduceEqDiff,if_false])) (by simp only[fh,aN,if_true];rfl) (.inl rfl) (by simp only[ow,dh,ez];omega) fun c2 ij zq jV=>?_;simp only[go_sem,p0,p1,p2,vN,w1,au];refine⟨ms++[⟨kk,av,y1,y2,false,false,0⟩],c2,by simp;omega,fun m hm=>?_,nxt_ _ (.thr vx nV sw af),afw eZ (uD.2 rfl),rfl,by rw[show mP (ms++[⟨kk,av,y1,y2,false,false,0⟩])=mP ms++[aP.ps ⟨kk,av,y1,y2,false,false,0⟩] by simp[mP]];exact zq⟩;rcases eD.1 hm with h|h
    .exact aq m h
    have:=lD.1 h;subst this;exact⟨rfl,rfl,rfl,rfl,rfl,hwb y1 af,hwb y2 af⟩
  have e8:(kk==8)=false:=by simpa using h8
  simp only[go_sem,i110_r3,p0,p1,p2,vN,p7,Dd,mf,q32,q33,e8,w1,au];exact⟨ms,c,aa,aq,GX (.three vx h8),eZ,rfl,zo.of_eq ((bd ae).trans (bd ae))⟩
 have:k=2:=aa;subst this;have sI:¬(((2:Nat):Int)<2):=ae;have sS:S.shared 137=true:=ah;simp only[go_sem,i110_l4,i110_r5,h7,lW,sI,sS];rcases gm with ⟨e,e2⟩|⟨aI,gg,e2,bm⟩
 .cases e2;have:ms=[]:=by simpa [mP] using e
  subst this;refine VI (by rfl) (.inl rfl) (P:=Kd aj) (fun qC h2=>aud (by rw[h2];kernel_rfl)) fun v fT hP=>?_;obtain⟨rfl,rfl⟩:=hP;simp only[go_sem,h7];exact⟨_,⟨[],⟨af,(fun m h=>by cases h),ym,List.Pairwise.nil⟩,rfl⟩,rfl⟩
 cases e2;rw[ow] at h7 ⊢;refine AS bm (by rfl) (.inl rfl) (P:=KC 7041280192 gg fK ms aj) (fun qC h1 h2=>aue h1 (by rw[h2];kernel_rfl) aa (fun m hm=>(aq m hm).2.2.2.2.2) bm) fun v fT hP=>?_;obtain⟨rfl,⟨ws,bw,pw,sw⟩,kw⟩:=hP;simp only[go_sem,h7];have jm:=pw.length_eq;refine⟨_,⟨ws,⟨aa,fun m hm=>aq m (pw.mem_iff.1 hm),fun j hj=>⟨fun a b c d e f=>pw.mem_iff.2 ((ym j hj).1 a b c d e f),fun a b c d e f g i j'=>pw.mem_iff.2 ((ym j hj).2 a b c d e f g i j')⟩,aul (fun m hm=>aq m (pw.mem_iff.1 hm)) (pw.nodup_iff.2 eZ) sw⟩,rfl⟩,?_⟩;rw[<- jm,<- ow ws];refine zt (.inr ⟨fun e=>aI ?_,gg,rfl,bw⟩);have h0:(mP ws).length=0:=by rw[e];rfl
 rw[ow,jm] at h0;rw[HG.1 h0];rfl
def Bt(k:Int)(n:Nat)(m:aP):Prop:= ∃a,a<n/\Ki k a m
theorem Xk{k:Int}{n a:Nat}(h:∀m∈ms,Bt k n m)(h2:∀m∈ns,Ki k a m)(ha:a<n):∀m∈ms++ns,Bt k n m:=fun m hm=>(eD.1 hm).elim (h m) fun h3=>⟨a,ha,h2 m h3⟩
def CP (F:Nat)(ls:List Let)(kk:Int)(ms:List aP):Prop:=(kk=1\/kk=4->∀a:Nat,a<ls.length->(⟨kk,a,0,0,false,false,0⟩:aP)∈ms)/\(kk=3\/kk=6\/kk=8->∀a,a<ls.length->∀j,j<2->jL kk a (kM F ls (2*a+j)).cG ms)
theorem jL.nI{kk:Int}(h:jL kk av D ms)(x:List aP):jL kk av D (x++ms):=
 ⟨fun a b c d e f=>BR _ (h.1 a b c d e f),fun a b c d e f g i j=>BR _ (h.2 a b c d e f g i j)⟩
def zY(x y:aP):Prop:=x.a<y.a\/(x.a=y.a/\rR x y=true)
section
variable {F:Nat} {ls:List Let}
theorem agq{k:Nat}(h:(∀m∈ms,m.a<(k:Int))/\ms.Pairwise zY)(hn:∀m∈ns,m.a=(k:Int))(hp:ns.Pairwise fun x y=>rR x y=true):(∀m∈ms++ns,m.a<((k+1:Nat):Int))/\(ms++ns).Pairwise zY:=by
 refine⟨fun m hm=>?_,HJ.2 ⟨h.2,hp.imp_of_mem fun hx hy hl=>.inr ⟨by rw[hn _ hx,hn _ hy],hl⟩,fun x hx y hy=>.inl (by rw[hn y hy];exact h.1 x hx)⟩⟩;rcases eD.1 hm with h1|h1
 .have:=h.1 m h1;omega
 have:=hn m h1;omega
theorem ake(g:cH F ls)(aI:0<ls.length){kk:Int}(d2:(kk==2)=false)(d5:(kk==5)=false)(d7:(kk==7)=false)(d3:(kk==3)=false)(d6:(kk==6)=false)(d8:(kk==8)=false):∃ms:List aP,(ms.length<=2*ls.length/\(∀m∈ms,Bt kk ls.length m)/\CP F ls kk ms/\ms.Pairwise zY)/\aK S 95 [.one (.p (eQ F ls)),vi kk] (.one (aT fK 7 (mP ms))):=by
 have hlen:=g.len;have bU:(dN (pieces ls)).length=ls.length:=by rw[dN,cD,gG]
 have iu:(((ls.length:Nat):Int)==0)=false:=by rw[lE];omega
 suffices h:∃r,(∃ms:List aP,(ms.length<=2*ls.length/\(∀m∈ms,Bt kk ls.length m)/\CP F ls kk ms/\ms.Pairwise zY)/\r=.one (aT fK 7 (mP ms)))/\aK S 95 [.one (.p (eQ F ls)),vi kk] r by obtain⟨r,⟨ms,h1,rfl⟩,h2⟩:=h;exact⟨ms,h1,h2⟩
 refine HS rfl c95 (ig rfl) ?_;simp only[go_sem,i95,i95_r12,bU,iu];refine cU (fun k ak aj=>ak 0=.one (.p (eQ F ls))/\ak 1=vi kk/\ak 41=vi ls.length/\ak 42=vi k/\ ∃ms c,ms.length<=2*k/\(∀m∈ms,Bt kk ls.length m)/\(∀a:Nat,a<k->(⟨kk,a,0,0,false,false,0⟩:aP)∈ms)/\((∀m∈ms,m.a<(k:Int))/\ms.Pairwise zY)/\ak 5=.one c/\grown 6080768320 fK 7 (mP ms) (.one c) aj) 0 ls.length (bl _) ?_ ?_
 .simp only[go_sem];exact⟨rfl,[],.p .nils,af,fun m h=>(by cases h),fun a h=>absurd h (nE _),⟨fun m h=>(by cases h),List.Pairwise.nil⟩,rfl,grown.nil⟩
 rintro k ak aj hk ⟨h0,h1,zw,tF,ms,c,yg,aq,AX,l7,h5,gm⟩
 by_cases au:k<ls.length
 .have aL:((k:Int)<(ls.length:Int)):=aa;have w1:=cA (n:=k) aa;simp only[go_sem,i95_l10,i95_r9,h1,zw,tF,h5,aL,d2,d5,d7,d3,d6,d8];refine sB (xs:=[aP.ps ⟨kk,k,0,0,false,false,0⟩]) (gm.of_eq (by simp only[aN,Nat.reduceEqDiff,if_false])) (by simp only[fh,aN,if_true];rfl) (.inl rfl) (by simp only[ow,dh,ez];omega) fun c2 ij zq jV=>?_;simp only[go_sem,h0,h1,zw,tF,w1,au];refine⟨ms++[⟨kk,k,0,0,false,false,0⟩],c2,by simp;omega,fun m hm=>?_,fun a ha=>?_,agq l7 (fun m hm=>by rw[lD.1 hm]) (List.pairwise_singleton _ _),rfl,by rw[show mP (ms++[⟨kk,k,0,0,false,false,0⟩])=mP ms++[aP.ps ⟨kk,k,0,0,false,false,0⟩] by simp[mP]];exact zq⟩
  .rcases eD.1 hm with h|h
   .exact aq m h
   have:=lD.1 h;subst this;exact⟨k,au,rfl,rfl,rfl,rfl,rfl,by simp[Dm]⟩
  by_cases e:a=k
  .rw[e];simp
  exact Fl _ (AX a aa)
 have:k=ls.length:=aa;subst this;simp only[go_sem,i95_l10,i95_r11,zw,tF,h5,dT];exact⟨_,⟨ms,⟨yg,aq,⟨fun _=>AX,fun h=>by rcases h with rfl|rfl|rfl<;>simp_all⟩,l7.2⟩,rfl⟩,zt gm⟩
theorem akd(g:cH F ls)(aI:0<ls.length){kk:Int}(vr:kk=3\/kk=6\/kk=8):∃ms:List aP,(ms.length<=2*ls.length/\(∀m∈ms,Bt kk ls.length m)/\CP F ls kk ms/\ms.Pairwise zY)/\aK S 95 [.one (.p (eQ F ls)),vi kk] (.one (aT fK 7 (mP ms))):=by
 have hlen:=g.len;have lo:S.lone 6082944256=false:=ah;have bU:(dN (pieces ls)).length=ls.length:=by rw[dN,cD,gG]
 have iu:(((ls.length:Nat):Int)==0)=false:=by rw[lE];omega
 suffices h:∃r,(∃ms:List aP,(ms.length<=2*ls.length/\(∀m∈ms,Bt kk ls.length m)/\CP F ls kk ms/\ms.Pairwise zY)/\r=.one (aT fK 7 (mP ms)))/\aK S 95 [.one (.p (eQ F ls)),vi kk] r by obtain⟨r,⟨ms,h1,rfl⟩,h2⟩:=h;exact⟨ms,h1,h2⟩
 have d2:(kk==2)=false:=by rw[lE];omega
 have d5:(kk==5)=false:=by rw[lE];omega
 have d7:(kk==7)=false:=by rw[lE];omega
 refine HS rfl c95 (ig rfl) ?_;simp only[go_sem,i95,i95_r12,bU,iu];refine cU (fun k ak aj=>ak 0=.one (.p (eQ F ls))/\ak 1=vi kk/\ak 41=vi ls.length/\ak 42=vi k/\ ∃ms c,ms.length<=2*k/\(∀m∈ms,Bt kk ls.length m)/\(∀a,a<k->∀j,j<2->jL kk a (kM F ls (2*a+j)).cG ms)/\((∀m∈ms,m.a<(k:Int))/\ms.Pairwise zY)/\ak 5=.one c/\grown 6082944320 fK 7 (mP ms) (.one c) aj) 0 ls.length (bl _) ?_ ?_
 .simp only[go_sem];exact⟨rfl,[],.p .nils,af,fun m h=>(by cases h),fun a h=>absurd h (nE _),⟨fun m h=>(by cases h),List.Pairwise.nil⟩,rfl,grown.nil⟩
 rintro k ak aj hk ⟨h0,h1,zw,tF,ms,c,yg,aq,AX,l7,h5,gm⟩
 by_cases au:k<ls.length
 .have aL:((k:Int)<(ls.length:Int)):=aa;have w1:=cA (n:=k) aa;obtain⟨ns,⟨vz,Ju,M7,Gs⟩,pc⟩:=akT g kk au;have Wr:=agq l7 (fun m hm=>(Ju m hm).2.1) Gs;have VV:∀a,a<k+1->∀j,j<2->jL kk a (kM F ls (2*a+j)).cG (ms++ns):=fun a ha j hj=>by
   by_cases e:a=k
   .rw[e];exact(M7 j hj).nI ms
   exact(AX a aa j hj).app ns
  cases d3:(kk==3) with
  |true=>simp only[go_sem,i95_l10,i95_r9,h0,h1,zw,tF,h5,aL,d2,d5,d7,d3,s110];refine rC pc lo (.inl rfl) fun cc bQ gl dd=>?_;have Cr:=gm.of_eq (dd 6082944320 ae);obtain⟨r,hx,hr⟩:=gl.elems;simp only[go_sem];refine sB (xs:=mP ns) Cr hx gl.gV (by simp only[ow];omega) fun c2 ij zq jV=>?_;simp only[go_sem,h0,h1,zw,tF,w1,au];exact⟨ms++ns,c2,by simp;omega,Xk aq Ju au,VV,Wr,rfl,by rw[show mP (ms++ns)=mP ms++mP ns by simp[mP]];exact zq⟩
  |false=>
   cases d6:(kk==6) with
   |true=>simp only[go_sem,i95_l10,i95_r9,h0,h1,zw,tF,h5,aL,d2,d5,d7,d3,d6,s110];refine rC pc lo (.inl rfl) fun cc bQ gl dd=>?_;have Cr:=gm.of_eq (dd 6082944320 ae);obtain⟨r,hx,hr⟩:=gl.elems;simp only[go_sem];refine sB (xs:=mP ns) Cr hx gl.gV (by simp only[ow];omega) fun c2 ij zq jV=>?_;simp only[go_sem,h0,h1,zw,tF,w1,au];exact⟨ms++ns,c2,by simp;omega,Xk aq Ju au,VV,Wr,rfl,by rw[show mP (ms++ns)=mP ms++mP ns by simp[mP]];exact zq⟩
   |false=>
    have d8:(kk==8)=true:=by
     rcases vr with rfl|rfl|rfl
     .cases d3
     .cases d6
     rfl
    simp only[go_sem,i95_l10,i95_r9,h0,h1,zw,tF,h5,aL,d2,d5,d7,d3,d6,d8,s110];refine rC pc lo (.inl rfl) fun cc bQ gl dd=>?_;have Cr:=gm.of_eq (dd 6082944320 ae);obtain⟨r,hx,hr⟩:=gl.elems;simp only[go_sem];refine sB (xs:=mP ns) Cr hx gl.gV (by simp only[ow];omega) fun c2 ij zq jV=>?_;simp only[go_sem,h0,h1,zw,tF,w1,au];exact⟨ms++ns,c2,by simp;omega,Xk aq Ju au,VV,Wr,rfl,by rw[show mP (ms++ns)=mP ms++mP ns by simp[mP]];exact zq⟩
 have:k=ls.length:=aa;subst this;simp only[go_sem,i95_l10,i95_r11,zw,tF,h5,dT];exact⟨_,⟨ms,⟨yg,aq,⟨fun h=>aa,fun _=>AX⟩,l7.2⟩,rfl⟩,zt gm⟩
end
abbrev vc:Nat:=24
theorem avM{a:PV}{id g z o l:Nat}:BJ [[.p a,.hsl id g z o l]]=none:=rfl
theorem aly{aj:aA}{s g ty sd td zd:Nat}{x:Int}{cd:C}{D:List (List PV)}(hb:aj s=(g,some (.iI ty 2 [[.p (.int .i64 x),cd]])))(gd:grown sd td zd D (.one cd) aj):
  ∃fr,fh aj (.one (.hsl s g 2 0 1))=some ([[.int .i64 x,.sl D]],[s],fr)/\oJ aj fr/\(fr=[]\/fr=[sd]):=by
 obtain⟨r1,n1,a1,q1⟩:=gd.Rs;refine⟨r1,?_,a1,q1⟩;simp only[fh,hb];simp[collect,n1,Rw,PV.norm]
abbrev sW(k:Int):Prop:=k5 k
def qV(F:Nat)(ls:List Let)(want:List Int)(m:aP):Prop:=m.k∈want/\Bt m.k ls.length m/\ ∃M,nI F ls m.k m.a m.b m.c m.l m.o m.s=kW F M
section
variable {F:Nat} {ls:List Let}
theorem akg(g:cH F ls)(aI:0<ls.length){kk:Int}(h:sW kk):∃ms:List aP,(ms.length<=2*ls.length/\(∀m∈ms,Bt kk ls.length m)/\CP F ls kk ms/\ms.Pairwise zY)/\aK S 95 [.one (.p (eQ F ls)),vi kk] (.one (aT fK 7 (mP ms))):=by
 have n2:kk≠2:=by unfold sW k5 at h;omega
 have n5:kk≠5:=by unfold sW k5 at h;omega
 have n7:kk≠7:=by unfold sW k5 at h;omega
 by_cases hc:kk=3\/kk=6\/kk=8
 .exact akd g aI hc
 exact ake g aI (lE.2 n2) (lE.2 n5) (lE.2 n7) (lE.2 fun e=>hc (.inl e)) (lE.2 fun e=>hc (.inr (.inl e))) (lE.2 fun e=>hc (.inr (.inr e)))
def Da(x y:aP):Prop:=x.k<y.k\/(x.k=y.k/\zY x y)
def CS (F:Nat)(ls:List Let)(want:List Int)(n:Int)(ms:List aP):Prop:=∀kk∈want,1<=kk->kk<=n->∃ns,CP F ls kk ns/\ ∀m∈ns,(∃M,nI F ls m.k m.a m.b m.c m.l m.o m.s=kW F M)->m∈ms
theorem CS.next{n:Int}(h:CS F ls want n ms)(h2:n+1∈want->∃ns,CP F ls (n+1) ns/\ ∀m∈ns,(∃M,nI F ls m.k m.a m.b m.c m.l m.o m.s=kW F M)->m∈ms):CS F ls want (n+1) ms:=fun kk hk h1 h3=>by
 by_cases e:kk=n+1
 .subst e;exact h2 hk
 exact h kk hk h1 aa
theorem CS.app{n:Int}(h:CS F ls want n ms)(m:aP):CS F ls want n (ms++[m]):=fun kk hk h1 h3=>by obtain⟨ns,a,b⟩:=h kk hk h1 h3;exact⟨ns,a,fun m hm hM=>Fl _ (b m hm hM)⟩
theorem asH{L:List Let}{e:Int}(he:e≠0):kW F L≠qX e:=fun h=>by unfold kW qX at h;simp only[RV.tup.injEq,yL,RV.one.injEq,RC.p.injEq,PV.int.injEq,and_true,true_and] at h;exact he h.2.symm
theorem af6{k j:Nat}(h:(∀m∈ms,m.k<=(k:Int)\/(m.k=((k+1:Nat):Int)/\m∈ns.take j))/\ms.Pairwise Da):(∀m∈ms,m.k<=(k:Int)\/(m.k=((k+1:Nat):Int)/\m∈ns.take (j+1)))/\ms.Pairwise Da:=
 ⟨fun m hm=>(h.1 m hm).imp_right fun h2=>⟨h2.1,by rw[kX];exact Fl _ h2.2⟩,h.2⟩
theorem arj{k j:Nat}{m:aP}(h:(∀m∈ms,m.k<=(k:Int)\/(m.k=((k+1:Nat):Int)/\m∈ns.take j))/\ms.Pairwise Da)(hp:ns.Pairwise zY)(hk:m.k=((k+1:Nat):Int))(hm:ns[j]?=some m):(∀x∈ms++[m],x.k<=(k:Int)\/(x.k=((k+1:Nat):Int)/\x∈ns.take (j+1)))/\(ms++[m]).Pairwise Da:=by
 refine⟨fun x hx=>?_,HJ.2 ⟨h.2,List.pairwise_singleton _ _,fun x hx y hy=>?_⟩⟩
 .rcases eD.1 hx with h1|h1
  .exact(af6 h).1 x h1
  rw[lD.1 h1];refine .inr ⟨hk,?_⟩;rw[kX,hm];exact BR _ af
 rw[lD.1 hy];rcases h.1 x hx with h1|⟨h1,h2⟩
 .exact .inl aa
 refine .inr ⟨aa,?_⟩;obtain⟨i,hi⟩:=je h2;rw[kJ] at hi;split at hi
 .rename_i fm;obtain⟨a1,a2⟩:=aW.1 hi;obtain⟨c1,c2⟩:=aW.1 hm;have:=HK.1 hp i j a1 c1 fm;rw[a2,c2] at this;exact this
 cases hi
theorem ahp(g:cH F ls)(aI:0<ls.length)(want:List Int)(jm:want.length<=10)(hw:∀k∈want,sW k):∃ms cs,(ms.length<=8000/\(∀m∈ms,qV F ls want m)/\CS F ls want 10 ms/\ms.Pairwise Da)/\aK S 73 [.one (.p (eQ F ls)),.one (.p (.sl (iP want)))] (.tup [.one (aT fK 7 (mP ms)),.one (aT vc 2 cs)]):=by
 have hlen:=g.len;have mR:S.lone 4672448128=false:=ah;have uM:S.lone 4672640128=false:=ah
 suffices h:∃r,(∃ms cs,(ms.length<=8000/\(∀m∈ms,qV F ls want m)/\CS F ls want 10 ms/\ms.Pairwise Da)/\r=.tup [.one (aT fK 7 (mP ms)),.one (aT vc 2 cs)])/\aK S 73 [.one (.p (eQ F ls)),.one (.p (.sl (iP want)))] r by obtain⟨r,⟨ms,cs,h1,rfl⟩,h2⟩:=h;exact⟨ms,cs,h1,h2⟩
 refine HS rfl c73 (ig rfl) ?_;simp only[go_sem,i73];refine cU (fun k ak aj=>ak 0=.one (.p (eQ F ls))/\ak 1=.one (.p (.sl (iP want)))/\ak 8=vi ((k+1:Nat):Int)/\ ∃ms cs c d,ms.length<=800*k/\cs.length<=800*k/\(∀m∈ms,qV F ls want m)/\CS F ls want ((k:Nat):Int) ms/\((∀m∈ms,m.k<=(k:Int))/\ms.Pairwise Da)/\ak 6=.one c/\ak 7=.one d/\grown 4672768192 fK 7 (mP ms) (.one c) aj/\grown 4672768448 vc 2 cs (.one d) aj) 0 10 (bl _) ?_ ?_
 .simp only[go_sem];exact⟨rfl,[],[],.p .nils,.p .nils,af,af,fun m h=>(by cases h),fun kk _ h1 h2=>absurd h2 aa,⟨fun m h=>(by cases h),List.Pairwise.nil⟩,rfl,rfl,grown.nil,grown.nil⟩
 rintro k ak aj hk ⟨e0,e1,e8,ms,cs,c,d,yg,de,aq,zA,sP,e6,e7,gm,gc⟩
 by_cases au:k<10
 .have aL:((k+1:Nat):Int)<=10:=aa;have w1:=cA (n:=k+1) aa;have ph:=aai want ((k+1:Nat):Int) aa;cases hc:want.contains ((k+1:Nat):Int) with
  |false=>rw[hc] at ph;simp only[go_sem,i73_l3,i73_r2,e0,e1,e6,e7,e8,aL,s94,dA ph,w1];exact⟨au,ms,cs,c,d,aa,aa,aq,zA.next fun h=>absurd (KX.2 h) (by rw[show((k:Nat):Int)+1=((k+1:Nat):Int) by omega,hc];decide),⟨fun m hm=>by have:=sP.1 m hm;omega,sP.2⟩,rfl,rfl,gm,gc⟩
  |true=>
   have o9:((k+1:Nat):Int)∈want:=by simpa using hc
   obtain⟨ns,⟨vz,Ju,AX,Gs⟩,pc⟩:=akg g aI (hw _ o9);rw[hc] at ph;simp only[go_sem,i73_l3,e0,e1,e8,aL,s94,dA ph,s95];refine rC pc mR (.inl rfl) fun cc bQ gl dd=>?_;have Cr:=gm.of_eq (dd 4672768192 ae);have gc1:=gc.of_eq (dd 4672768448 ae);rcases gl with ⟨e,e2⟩|⟨_,gg,e,tG⟩
   .cases e2;simp only[go_sem];refine rm ?_;simp only[go_sem,i73_l1,i73_r2,e0,e1,e6,e7,e8,zz,w1];exact⟨au,ms,cs,c,d,aa,aa,aq,zA.next fun _=>⟨ns,AX,fun m hm=>by rw[show ns=[] by simpa [mP] using e] at hm;cases hm⟩,⟨fun m hm=>by have:=sP.1 m hm;omega,sP.2⟩,rfl,rfl,Cr,gc1⟩
   cases e;rw[ow];simp only[go_sem];refine cU (fun j ak aj=>ak 0=.one (.p (eQ F ls))/\ak 1=.one (.p (.sl (iP want)))/\ak 8=vi ((k+1:Nat):Int)/\ak 23=.one (.hsl 4672448128 gg 7 0 ns.length)/\ak 24=vi ns.length/\ak 25=vi j/\aj 4672448128=(gg,some (.arr fK 7 (mP ns)))/\ ∃ms cs c d,ms.length<=800*k+j/\cs.length<=800*k+j/\(∀m∈ms,qV F ls want m)/\CS F ls want ((k:Nat):Int) ms/\(∀i,i<j->∀m,ns[i]?=some m->(∃M,nI F ls m.k m.a m.b m.c m.l m.o m.s=kW F M)->m∈ms)/\((∀m∈ms,m.k<=(k:Int)\/(m.k=((k+1:Nat):Int)/\m∈ns.take j))/\ms.Pairwise Da)/\ak 6=.one c/\ak 7=.one d/\grown 4672768192 fK 7 (mP ms) (.one c) aj/\grown 4672768448 vc 2 cs (.one d) aj) 0 ns.length (bl _) ?_ ?_
   .simp only[go_sem,e0,e1,e6,e7,e8];exact⟨rfl,tG,ms,cs,c,d,aa,aa,aq,zA,fun i h=>absurd h (nE _),⟨fun m hm=>.inl (sP.1 m hm),sP.2⟩,rfl,rfl,Cr,gc1⟩
   clear gm gc Cr gc1 aq yg de tG dd zA sP e0 e1 e6 e7 e8;rintro j ak aj hj ⟨q0,q1,q8,tW,qw,By,bL,ms,cs,c,d,yg,de,aq,zA,kr,sP,q6,q7,gm,gc⟩
   by_cases sL:j<ns.length
   .have Gr:((j:Int)<(ns.length:Int)):=aa;have w2:=cA (n:=j) aa;obtain⟨m,lM⟩:=aM sL;have jC:=JY lM;have yf:=Ju m (aU lM);have hkm:m.k=((k+1:Nat):Int):=yf.choose_spec.2.1;have anX:(mP ns).length=ns.length:=ow ns;have zK:k5 m.k:=by rw[hkm];exact hw _ o9
    have pd:=do5 g zK m.a m.b m.c m.l m.o m.s;rcases OU g zK m.a m.b m.c m.l m.o m.s with ⟨e,he,ha⟩|⟨M,ha,_⟩
    .rw[ha] at pd;have Gg:(e==0)=false:=by simpa using he
     simp only[go_sem,i73_l1,q0,q1,q6,q7,q8,tW,qw,By,bL,sL,Gr,jC,aP.ps,s74,cV pd apd,Gg,w2];exact⟨ms,cs,c,d,aa,aa,aq,zA,fun i hi m' oZ hM=>by
      by_cases ei:i=j
      .rw[ei,lM] at oZ;cases oZ;obtain⟨M,hM⟩:=hM;rw[ha] at hM;exact absurd hM.symm (asH he)
      exact kr i aa m' oZ hM,af6 sP,rfl,rfl,gm.of_eq (by simp only[aN,Nat.reduceEqDiff,if_false]),gc.of_eq (by simp only[aN,Nat.reduceEqDiff,if_false])⟩
    have Qd:qV F ls want m:=⟨by rw[hkm];exact o9,by rw[hkm];exact yf,M,ha⟩;rw[ha] at pd;simp only[go_sem,i73_l1,q0,tW,qw,By,bL,sL,Gr,jC,aP.ps,s74];refine acz pd uM fun cx bj gx bn=>?_;have b10:=bn 4672576128 ae;simp only[go_sem] at b10;have bL2:=(bn 4672448128 ae).trans ((bd ae).trans ((bd ae).trans bL));have F3:=gm.of_eq ((bn 4672768192 ae).trans (by simp only[aN,Nat.reduceEqDiff,if_false]));have vk:=gc.of_eq ((bn 4672768448 ae).trans (by simp only[aN,Nat.reduceEqDiff,if_false]));have CN:∀m'∈ms++[m],qV F ls want m':=fun m' h=>(eD.1 h).elim (aq m') fun h=>(lD.1 h)▸Qd
    have ac9:∀i,i<j+1->∀m',ns[i]?=some m'->(∃M,nI F ls m'.k m'.a m'.b m'.c m'.l m'.o m'.s=kW F M)->m'∈ms++[m]:=fun i hi m' oZ hM=>by
     by_cases ei:i=j
     .rw[ei,lM] at oZ;cases oZ;simp
     exact Fl _ (kr i aa m' oZ hM)
    have acZ:=zA.app m;have adq:=arj sP Gs hkm lM;have vv:mP (ms++[m])=mP ms++[aP.ps m]:=by simp[mP]
    rcases gx with ⟨eM,e2⟩|⟨an3,g2,e2,hbx⟩
    .cases e2;simp only[go_sem,b10,q6];refine AO (site:=4672768192) (id:=4672768192) (bytes:=48) (xs:=[aP.ps m]) (rd:=[4672768128]) (F3.of_eq (by simp only[aN,Nat.reduceEqDiff,if_false])) (by simp[fh,aN,aP.ps]) (.inl rfl) (by simp only[ow,dh,ez];omega) fun c' fT r1 u1 iC gn jE=>?_;have Ls:=gn 4672640384 ae ae;simp only[go_sem] at Ls;simp only[go_sem,Ls,q7];have I2:=vk.of_eq ((gn 4672768448 ae ae).trans (by simp only[aN,Nat.reduceEqDiff,if_false]:_=bj 4672768448));refine AO (site:=4672768448) (id:=4672768448) (bytes:=32) (xs:=[[.int .i64 F,.sl []]]) (rd:=[4672768384]) (I2.of_eq (bd ae)) (by simp[fh,aN]) (.inl rfl) (by simp only[dh,ez];omega) fun d' ij r2 u2 AY jV vA=>?_
     have Lv:=(jV 4672448128 ae ae).trans ((bd ae).trans (gn 4672448128 ae ae));simp only[aN,Nat.reduceEqDiff,if_false] at Lv;have bL5:=Lv.trans bL2;simp only[go_sem,q0,q1,q6,q7,q8,tW,qw,By,bL5,w2,sL];refine⟨?_,ms++[m],_,c',d',by simp;omega,by simp;omega,CN,acZ,ac9,adq,rfl,rfl,?_,AY⟩
     .rcases jE with ⟨rfl,rfl⟩|⟨rfl,rfl⟩|⟨rfl,rfl⟩<;>rcases vA with ⟨rfl,rfl⟩|⟨rfl,rfl⟩|⟨rfl,rfl⟩<;>kernel_rfl
     rw[vv];exact iC.of_eq ((jV 4672768192 ae ae).trans (bd ae))
    cases e2;simp only[go_sem,b10,q6];refine AO (site:=4672768192) (id:=4672768192) (bytes:=48) (xs:=[aP.ps m]) (rd:=[4672768128]) (F3.of_eq (by simp only[aN,Nat.reduceEqDiff,if_false])) (by simp[fh,aN,aP.ps]) (.inl rfl) (by simp only[ow,dh,ez];omega) fun c' fT r1 u1 iC gn jE=>?_;have Ls:=gn 4672640384 ae ae;simp only[go_sem] at Ls;simp only[go_sem,Ls,q7];have bx3:=(gn (4672640128+1) ae ae);simp only[Nat.reduceAdd,aN,Nat.reduceEqDiff,if_false] at bx3 hbx;have hx3:=bx3.trans hbx;have gx3:grown (4672640128+1) lN 6 (dF M) (.one (.hsl (4672640128+1) g2 6 0 M.length)) fT:=.inr ⟨an3,g2,by rw[dF,cD],hx3⟩
    obtain⟨fr,hx,AZ,Gj⟩:=aly (aj:=dJ fT 4672768384 ((fT 4672768384).1+1,some (.iI vc 2 [[.p (.int .i64 F),.hsl (4672640128+1) g2 6 0 M.length]]))) (s:=4672768384) Ai (gx3.of_eq (bd ae));have I2:=vk.of_eq ((gn 4672768448 ae ae).trans (by simp only[aN,Nat.reduceEqDiff,if_false]:_=bj 4672768448));have nf:∀i,i≠4672640128+1->i∉fr:=fun i a h=>by
     rcases Gj with rfl|rfl
     .cases h
     exact a (lD.1 h)
    refine ak7 (site:=4672768448) (id:=4672768448) (bytes:=32) (I2.of_eq (bd ae)) hx AZ (nf _ ae) (nf _ ae) (.inl rfl) (by simp only[dh,ez];omega) fun d' ij r2 u2 AY jV vA=>?_;have Lv:=(jV 4672448128 ae ae (nf _ ae)).trans ((bd ae).trans (gn 4672448128 ae ae));simp only[aN,Nat.reduceEqDiff,if_false] at Lv;have bL5:=Lv.trans bL2;simp only[go_sem,q0,q1,q6,q7,q8,tW,qw,By,bL5,w2,sL];refine⟨?_,ms++[m],_,c',d',by simp;omega,by simp;omega,CN,acZ,ac9,adq,rfl,rfl,?_,AY⟩
    .rcases Gj with rfl|rfl<;>rcases jE with ⟨rfl,rfl⟩|⟨rfl,rfl⟩|⟨rfl,rfl⟩<;>rcases vA with ⟨rfl,rfl⟩|⟨rfl,rfl⟩|⟨rfl,rfl⟩<;>kernel_rfl
    rw[vv];exact iC.of_eq ((jV 4672768192 ae ae (nf _ ae)).trans (bd ae))
   have:j=ns.length:=aa;subst this;simp only[go_sem,i73_l1,i73_r2,q0,q1,q6,q7,q8,qw,By,dT,w1];exact⟨au,ms,cs,c,d,aa,aa,aq,zA.next fun _=>⟨ns,AX,fun m hm hM=>by obtain⟨i,hi⟩:=je hm;exact kr i (aW.1 hi).1 m hi hM⟩,⟨fun m hm=>by rcases sP.1 m hm with h|h<;>omega,sP.2⟩,rfl,rfl,gm,gc⟩
 have:k=10:=aa;subst this;have js:¬(((10+1:Nat):Int)<=10):=ae;simp only[go_sem,i73_l3,i73_r4,e6,e7,e8,js];exact⟨_,⟨ms,cs,⟨yg,aq,zA,sP.2⟩,rfl⟩,PH ae gm gc⟩
theorem auc(g:cH F ls)(aI:0<ls.length)(want:List Int)(jm:want.length<=10)(hw:∀k∈want,sW k):∃ms cs,(ms.length<=8000/\ ∀m∈ms,qV F ls want m)/\aK S 73 [.one (.p (eQ F ls)),.one (.p (.sl (iP want)))] (.tup [.one (aT fK 7 (mP ms)),.one (aT vc 2 cs)]):=by obtain⟨ms,cs,⟨h1,h2,_⟩,h⟩:=ahp g aI want jm hw;exact⟨ms,cs,⟨h1,h2⟩,h⟩
end
theorem WM{l:List Pc}{drop:Nat->Pc->Bool}{i:Nat}{p:Pc}(hp:l[i]?=some p)(hd:drop i p=true):(pI l drop).length<l.length:=by
 have hi:=(aW.1 hp).1;have key:∀k,k<=l.length->i<k->(tP l drop k).length<k:=by
  intro k
  induction k with
  |zero=>intro _ h;exact absurd h (nE i)
  |succ k ih=>
   intro hk hik;by_cases e:i=k
   .subst e;rw[Bh hp hd];have:=GK l drop i;omega
   obtain⟨q,hq⟩:=aM (ls:=l) (k:=k) aa;have:=ih aa aa;cases xW:drop k q
   .rw[JN hq xW,ff];simp only[dh,ez];omega
   rw[Bh hq xW];omega
 exact key l.length (bJ _) hi
theorem Vt{q:Let->Bool}(l:List Pc):aw q (lV l)=l.countP fun p=>q p.l:=by
 have e:aw q (l.map Pc.l)=l.countP fun p=>q p.l:=by show List.countP _ (List.map _ _)=_;rw[Ao];rfl
 rw[<- e];have hf:(uw l).getD 0<=l.length:=by
  cases h:uw l with
  |none=>exact bl _
  |some f=>have:=Lb h;simp at this;simp only[mV];omega
 unfold lV;rw[XK hf];show List.countP _ _=List.countP _ _;rw[j6,v7,Ld,<- v7,<- j6,nC]
section
variable {F:Nat} {ls:List Let}
theorem aqu{k:Int}(hk:k=1\/k=4\/k=6){a b c:Nat}{l o:Bool}{sg:Int}(ha:a<ls.length){L:List Pc}(h:qu F ls k a b c l o sg=some L):L.length<ls.length:=by
 obtain⟨p,hp⟩:=aM (ls:=pieces ls) (k:=a) (by rw[gG];exact ha);have bU:=gG ls;have hg:(pieces ls).getD a ⟨kz,false⟩=p:=by simp[di,hp]
 rcases hk with rfl|rfl|rfl
 .have h:wB ls a=some L:=h;unfold wB at h;simp only at h;split at h
  .cases h;show(List.map _ _).length<_;rw[cD,<- bU];exact WM hp af
  cases h
 .have h:yv ls a=some L:=h;unfold yv at h;simp only at h;rw[hg] at h;split at h
  .rename_i hc;cases h;show(List.map _ _).length<_;rw[cD,<- bU];simp only[cN] at hc;exact WM hp (by unfold uu;rw[hc.1];simp)
  cases h
 have h:vO F ls a b=some L:=h;unfold vO at h;rw[jZ hp] at h;split at h
 .rename_i hc;cases h;show(List.map _ _).length<_;rw[cD,<- bU];have jk:(p.l.kind==2)=true:=by
   simp only[cN,yJ] at hc;unfold jU at hc;rw[jZ hp] at hc;simp only[cN] at hc;rcases hc.1 with h|h
   .exact h.1.1
   exact h.1.1
  exact WM hp (by unfold uu;rw[jk];simp)
 cases h
theorem akZ(g:cH F ls)(hm:qV F ls want m)(hk:m.k=1\/m.k=4\/m.k=6):∃M,nI F ls m.k m.a m.b m.c m.l m.o m.s=kW F M/\cQ F M=0/\M.length<ls.length/\aw Let.aG M<=aw Let.aG ls/\aw Let.aC M<=aw Let.aC ls:=by
 obtain⟨_,⟨av,ha,_,ea,_⟩,M0,e0⟩:=hm;have zK:k5 m.k:=by unfold k5;omega
 rcases OU g zK m.a m.b m.c m.l m.o m.s with ⟨e,he,h⟩|⟨M,h,hc,_,L,hL,rfl⟩
 .rw[e0] at h;unfold kW qX at h;simp only[RV.tup.injEq,yL,RV.one.injEq,RC.p.injEq,PV.int.injEq,and_true,true_and] at h;exact absurd h.2.symm he
 rw[ea,vZ] at hL;have bU:=gG ls;have au:=aqu hk ha hL;have hb:m.b.toNat<ls.length\/(m.k≠3/\m.k≠8):=.inr ⟨aa,aa⟩;have tH:m.c.toNat<ls.length\/m.k≠8:=.inr aa;have kC:EL (fun p=>p.l.aC):=fun p p' h=>by show(p.l.kind==2)=(p'.l.kind==2);rw[h]
 have kP:EL (fun p=>p.l.aG):=fun p p' h=>by show(p.l.kind==1)=(p'.l.kind==1);rw[h]
 have pq:∀q:Let->Bool,(pieces ls).countP (fun p=>q p.l)=aw q ls:=fun q=>by rw[<- N4 (ls:=ls) q];show _=List.countP _ (List.map _ _);rw[Ao];rfl
 have c1:=NN g kP zK ha hb tH hL;have c2:=NN g kC zK ha hb tH hL;rw[pq] at c1 c2;exact⟨_,h,hc,by rw[ab4];exact au,by rw[Vt];exact c1,by rw[Vt];exact c2⟩
end
section
variable {F:Nat}
theorem akf{k:Int}(hk:(k==2)=false):aK S 95 [.one (.p (eQ F [])),vi k] (.one (aT fK 7 [])):=by have bU:(dN (pieces [])).length=0:=rfl;have h7:(((0:Nat):Int)==0)=true:=ae;refine bh c95 ?_;simp only[go_sem,i95,i95_r12,bU,h7,hk];refine rm ?_;simp only[go_sem,i95_l10,i95_r11,zz];rfl
theorem aua(want:List Int)(jm:want.length<=10)(hw:∀k∈want,sW k):aK S 73 [.one (.p (eQ F [])),.one (.p (.sl (iP want)))] (.tup [.one (aT fK 7 []),.one (aT vc 2 [])]):=by
 have mR:S.lone 4672448128=false:=ah;refine bh c73 ?_;simp only[go_sem,i73];refine cU (fun k ak aj=>ak 0=.one (.p (eQ F []))/\ak 1=.one (.p (.sl (iP want)))/\ak 8=vi ((k+1:Nat):Int)/\ak 6=.one (.p .nils)/\ak 7=.one (.p .nils)) 0 10 (bl _) ?_ ?_
 .simp only[go_sem];rfl
 rintro k ak aj hk ⟨e0,e1,e8,e6,e7⟩
 by_cases au:k<10
 .have aL:((k+1:Nat):Int)<=10:=aa;have w1:=cA (n:=k+1) aa;have ph:=aai want ((k+1:Nat):Int) aa;cases hc:want.contains ((k+1:Nat):Int) with
  |false=>rw[hc] at ph;simp only[go_sem,i73_l3,i73_r2,e0,e1,e6,e7,e8,aL,s94,dA ph,w1];exact au
  |true=>
   have o9:((k+1:Nat):Int)∈want:=by simpa using hc
   have pc:=akf (F:=F) (k:=((k+1:Nat):Int)) (lE.2 (by have:=hw _ o9;unfold sW k5 at this;omega));rw[hc] at ph;simp only[go_sem,i73_l3,e0,e1,e8,aL,s94,dA ph,s95];refine rC pc mR (.inl rfl) fun cc bQ gl dd=>?_;rcases gl with ⟨e,e2⟩|⟨h,_⟩
   .cases e2;simp only[go_sem];refine rm ?_;simp only[go_sem,i73_l1,i73_r2,e0,e1,e6,e7,e8,zz,w1];exact au
   exact absurd rfl h
 have:k=10:=aa;subst this;have js:¬(((10+1:Nat):Int)<=10):=ae;simp only[go_sem,i73_l3,i73_r4,e6,e7,e8,js];rfl
end
section
variable {F:Nat} {ls:List Let}
theorem ZZ(h:cQ (F:Int) []=0):F<=40:=by
 unfold cQ at h;rw[ay ae] at h;by_cases hf:(F:Int)<0\/40<(F:Int)
 .rw[aF hf] at h;cases h
 omega
theorem aub(h:cQ (F:Int) ls=0)(want:List Int)(jm:want.length<=10)(hw:∀k∈want,sW k):∃ms cs,(ms.length<=8000/\ ∀m∈ms,qV F ls want m)/\aK S 73 [.one (.p (eQ F ls)),.one (.p (.sl (iP want)))] (.tup [.one (aT fK 7 (mP ms)),.one (aT vc 2 cs)]):=by
 by_cases aI:ls=[]
 .subst aI;exact⟨[],[],⟨af,fun m h=>by cases h⟩,aua want jm hw⟩
 obtain⟨G,e,g⟩:=ss h aI;have:F=G:=aa;subst this;exact auc g (jf.2 aI) want jm hw
theorem aqN(h:cQ (F:Int) ls=0):aK S 72 [dR F ls] (yC (eQ F ls) (.int .i64 0)):=by
 by_cases aI:ls=[]
 .subst aI;exact aqL (ZZ h)
 obtain⟨G,e,g⟩:=ss h aI;have:F=G:=aa;subst this;exact Xl g
theorem YZ(h:cQ (F:Int) ls=0)(want:List Int)(jm:want.length<=10)(hw:∀k∈want,sW k):∃ms,(ms.length<=8000/\ ∀m∈ms,qV F ls want m)/\aK S 44 [dR F ls,.one (.p (.sl (iP want)))] (.tup [.one (aT fK 7 (mP ms)),.one (.p (.int .i64 0))]):=by obtain⟨ms,cs,hm,ps⟩:=aub h want jm hw;have po:=aqN h;have lo:S.lone 2816256128=false:=ah;refine⟨ms,hm,?_⟩;refine bh c44 ?_;simp only[go_sem,i44,s72,cV po gR,s73];refine acy ps lo fun c d bQ gc gd hb=>?_;simp only[go_sem];exact wK gc
theorem aiI(g:cH F ls)(want:List Int)(jm:want.length<=10)(hw:∀k∈want,sW k):∃ms,(ms.length<=8000/\(∀m∈ms,qV F ls want m)/\CS F ls want 10 ms/\ms.Pairwise Da)/\aK S 44 [dR F ls,.one (.p (.sl (iP want)))] (.tup [.one (aT fK 7 (mP ms)),.one (.p (.int .i64 0))]):=by obtain⟨ms,cs,hm,ps⟩:=ahp g (jf.2 g.ne) want jm hw;have po:=Xl g;have lo:S.lone 2816256128=false:=ah;refine⟨ms,hm,?_⟩;refine bh c44 ?_;simp only[go_sem,i44,s72,cV po gR,s73];refine acy ps lo fun c d bQ gc gd hb=>?_;simp only[go_sem];exact wK gc
abbrev vQ:List Int:=[1,4,6]
theorem agx:∀k∈vQ,sW k:=by intro k h;simp only[cM,gC,or_false] at h;unfold sW k5;omega
abbrev BA(m:aP)(b:Bool):RV:=.tup [.agg (m.ps.map .p),.one (.p (.bool b))]
theorem XN(ms:List aP):((mP ms).all fun e=>e.all PV.scalar)=true:=by rw[jd];intro e he;obtain⟨i,_,rfl⟩:=dp.1 he;rfl
abbrev Ow:aP:=⟨0,0,0,0,false,false,0⟩
def hdV:List aP->RV
 |[]=>BA Ow false
 |m::_=>BA m true
theorem asr(ps:aK S 44 [dR F ls,.one (.p (.sl (iP vQ)))] (.tup [.one (aT fK 7 (mP ms)),.one (.p (.int .i64 0))])):aK S 30 [dR F ls] (hdV ms):=by
 have ps':aK S 44 [dR F ls,.one (.p (.sl [[.int .i64 1],[.int .i64 4],[.int .i64 6]]))] (.tup [.one (aT fK 7 (mP ms)),.one (.p (.int .i64 0))]):=ps;have lo:S.lone 1920064128=false:=ah;refine bh c30 ?_;simp only[go_sem,i30,s44];refine amQ ps' lo (XN _) rfl fun c bQ gc hb=>?_;have b2:=hb 1920000064 ae;simp only[go_sem] at b2;cases ms with
 |nil=>
  rcases gc with ⟨_,e2⟩|⟨h,_⟩
  .cases e2;have Mq:(((0:Nat):Int)==0)=true:=ae;simp only[go_sem,Mq,b2];rfl
  exact absurd rfl h
 |cons m r=>
  rcases gc with ⟨h,_⟩|⟨_,gg,e2,hC⟩
  .cases h
  cases e2;have hl:(mP (m::r)).length=r.length+1:=by simp[mP]
  have Mq:(((r.length+1:Nat):Int)==0)=false:=by rw[lE];omega
  have au:0<r.length+1:=aa;have jC:(mP (m::r))[0]?=some m.ps:=rfl;rw[hl];generalize mP (m::r)=es at*;simp only[go_sem,Mq,b2,hC,jC,au,aP.ps];rfl
theorem agy(h:cQ (F:Int) ls=0):(∃m,qV F ls vQ m/\(¬aK S 44 [dR F ls,.one (.p (.sl (iP vQ)))] (.tup [.one (aT fK 7 []),.one (.p (.int .i64 0))]))/\aK S 30 [dR F ls] (BA m true))\/(aK S 44 [dR F ls,.one (.p (.sl (iP vQ)))] (.tup [.one (aT fK 7 []),.one (.p (.int .i64 0))])/\aK S 30 [dR F ls] (BA Ow false)):=by
 obtain⟨ms,⟨_,hm⟩,ps⟩:=YZ h vQ ae agx;have pr:=asr ps;cases ms with
 |nil=>exact .inr ⟨ps,pr⟩
 |cons m r=>
  exact .inl ⟨m,hm m af,(fun h=>by have:=ps.zg h;simp[aT] at this),pr⟩
end
theorem amV{Q:dD}{ak:Env}{aj:aA}{os:List bG}{d:Option Nat}{f:Nat}{vs:List V}{s t1 z1 t2 z2:Nat}{rd:List Nat}{es fs:List (List PV)}{x:PV}(hp:aK S f vs (.tup [.agg [.p x,aT t1 z1 es],.one (aT t2 z2 fs)]))(eG:S.lone s=false)(hx:x.scalar=true)
  (a1:(es.all fun e=>e.all PV.scalar)=true) (a2:(fs.all fun e=>e.all PV.scalar)=true)
  (hK:∀(c e:C) ao,grown (s+1) t1 z1 es (.one c) ao->grown (s+2) t2 z2 fs (.one e) ao->(∀i,i≠s+1->i≠s+2->ao i=aj i)->RN S .all os Q (put ak d (.tup [.agg [.p x,c],.one e])) ao):gP S .all (.pc f vs rd s) d os Q ak aj:=by
 obtain⟨h1,h2,_⟩:=sV (aj:=aj) (s:=s+1) (ty:=t1) (z:=z1) (es:=es);have e0:∀(b b':aA) (k:Nat) (r:RC),b' k=b k->df b k r=df b' k r:=by
  intro b b' k r h;cases r with
  |p v=>rfl
  |own ty sz es=>simp only[df,h]
 have e2:df aj (s+2) (aT t2 z2 fs)=df (app (df aj (s+1) (aT t1 z1 es)).2 aj) (s+2) (aT t2 z2 fs):=e0 _ _ _ _ (h2 (s+2) aa);obtain⟨k1,k2,_⟩:=sV (aj:=app (df aj (s+1) (aT t1 z1 es)).2 aj) (s:=s+2) (ty:=t2) (z:=z2) (es:=fs);rw[<- e2] at k1 k2;have Ga:∀(a b:List eK) (c:aA),app (a++b) c=app b (app a c):=by
  intro a
  induction a with
  |nil=>intro b c;rfl
  |cons x a ih=>intro b c;exact ih b _
 have fi:(RV.tup [.agg [.p x,aT t1 z1 es],.one (aT t2 z2 fs)]).alone=true:=by
  have a:=qD (ty:=t1) (z:=z1) a1;have b:=qD (ty:=t2) (z:=z2) a2;have JF:(RV.one (.p x)).alone=true:=by show(x.scalar&&true)=true;rw[hx];rfl
  skip
  simp only[RV.alone,gK,im,mw,pP,xn] at a b JF;simp only[RV.alone,gK,mI,im,yM,fY,jP,mw,pP,xn,a,b,JF]
 refine(cV (v:=.tup [.agg [.p x,(df aj (s+1) (aT t1 z1 es)).1],.one (df aj (s+2) (aT t2 z2 fs)).1]) (u:=(df aj (s+1) (aT t1 z1 es)).2++(df aj (s+2) (aT t2 z2 fs)).2) hp ?_).2 (hK _ _ _ ?_ ?_ ?_)
 .rw[eG,vP];unfold land;rw[aF (.inr fi)];simp[ju,gK,mI,im,iY,qY,rV,mq,df]
 .rw[Ga];exact h1.of_eq (k2 (s+1) aa)
 .rw[Ga];exact k1
 intro i a b;rw[Ga,k2 i b,h2 i a]
theorem afU{s1 t1 z1 s2 t2 z2:Nat}{es fs:List (List PV)}{c d:C}{x:PV}{aj:aA}(hs:s1≠s2)(h:grown s1 t1 z1 es (.one c) aj)(h':grown s2 t2 z2 fs (.one d) aj):iE aj (.tup [.agg [.p x,c],.one d])=some (.tup [.agg [.p x,aT t1 z1 es],.one (aT t2 z2 fs)]):=by obtain⟨c',o,hc,h2,h3⟩:=h.jv;cases hc;obtain⟨d',q,hd,k2,k3⟩:=h'.jv;cases hd;have e1:jv aj (.p x)=some (.p x,[],[]):=rfl;rcases h3 with rfl|rfl<;>rcases k3 with rfl|rfl<;>simp[iE,sv,ux,ng,mj,h2,k2,e1,apart,uS,rU,Ag,hs]
theorem QA{aj:aA}{rd:List Nat}{s:Nat}{b:Bool}{l:Bool}:land aj rd s ((BA m b).fP l)=some (.tup [.agg [.p (.int .i64 m.k),.p (.int .i64 m.a),.p (.int .i64 m.b),.p (.int .i64 m.c),.p (.bool m.l),.p (.bool m.o),.p (.int .i64 m.s)],.one (.p (.bool b))],[]):=by cases l<;>(unfold land;rw[aF (.inr rfl)];rfl)
def Db(F:Nat)(L:List Let):Prop:=aK S 44 [dR F L,.one (.p (.sl (iP vQ)))] (.tup [.one (aT fK 7 []),.one (.p (.int .i64 0))])
theorem apC:∀ {A B:List Let},dF A=dF B->A=B:=by
 intro A
 induction A with
 |nil=>intro B h;cases B with
  |nil=>rfl
  |cons _ _=>cases h
 |cons a A ih=>
  intro B h;cases B with
  |nil=>cases h
  |cons b B=>have h:a.ps::dF A=b.ps::dF B:=h;rw[yL] at h;rw[ih h.2];have h1:=h.1;cases a;cases b;simp only[Let.ps,yL,PV.int.injEq,PV.bool.injEq,and_true,true_and] at h1;obtain⟨rfl,rfl,rfl,rfl,rfl,rfl⟩:=h1;rfl
theorem asJ{A B:List Let}(h:kW F A=kW F B):A=B:=by
 unfold kW at h;simp only[RV.tup.injEq,yL,RV.agg.injEq,and_true,true_and] at h;unfold aT at h;by_cases hA:dF A=[]
 .by_cases hB:dF B=[]
  .rw[Yy.1 hA,Yy.1 hB]
  rw[aF hA,ay hB] at h;cases h
 by_cases hB:dF B=[]
 .rw[ay hA,aF hB] at h;cases h
 rw[ay hA,ay hB] at h;simp only[RC.own.injEq,true_and] at h;exact apC h
theorem Rh{L:List Let}{e:Int}(he:e≠0):kW F L≠qX e:=fun h=>by unfold kW qX at h;simp only[RV.tup.injEq,yL,RV.one.injEq,RC.p.injEq,PV.int.injEq,and_true,true_and] at h;exact he h.2.symm
theorem SJ{M:List Let}(aI:ls≠[])(h:nI F ls m.k m.a m.b m.c m.l m.o m.s=kW F M):jT F ls m=some M:=by
 unfold jT;rw[ay aI];unfold nI at h;by_cases hA:cS F ls m.k m.a m.b m.c m.l m.o m.s=true
 .rw[aF hA] at h ⊢;cases hM:qu F ls m.k m.a.toNat m.b.toNat m.c.toNat m.l m.o m.s with
  |none=>rw[hM] at h;exact absurd h.symm (Rh ae)
  |some L=>
   rw[hM] at h;dsimp only;by_cases hc:(400:Int)<(ls.length:Int)+(lJ m.k).1\/(100:Int)<((aw Let.aC ls/2:Nat):Int)+(lJ m.k).2
   .have e2:zi F ls m.k (some L)=qX 7:=aF hc;rw[e2] at h;exact absurd h.symm (Rh ae)
   have e2:zi F ls m.k (some L)=kW F (lV L):=ay hc;rw[e2] at h;rw[ay hc,asJ h]
 rw[ay hA] at h;exact absurd h.symm (Rh ae)
def okR(F:Nat)(L:List Let)(m:aP):Prop:=qV F L vQ m/\aK S 30 [dR F L] (BA m true)
structure BU (F:Nat) (ls:List Let) (ms:List aP) (L:List Let):Prop where
 len:L.length+ms.length<=ls.length
 chk:cQ (F:Int) L=0
 rep:te F ls ms=some L
 kind:∀m∈ms,m.k∈vQ
 rdg:∀(i:Nat) (m:aP),ms[i]?=some m->∃K,te F ls (ms.take i)=some K/\cQ (F:Int) K=0/\aK S 30 [dR F K] (BA m true)
def SU(F:Nat)(ls:List Let)(ms:List aP)(L:List Let)(c:C)(aj:aA):Prop:=(c=.p (cK L)/\ms=[]/\L=ls)\/grown 1792320129 lN 6 (dF L) (.one c) aj
theorem SU.snap{L:List Let}{c:C}{aj:aA}(h:SU F ls ms L c aj):∃r,∀B:aA,B 1792320129=aj 1792320129->Go.Abs.snap B fM c=some (cK L,r):=by
 rcases h with ⟨rfl,_,_⟩|h
 .exact⟨[],fun B _=>rfl⟩
 obtain⟨r,h1,_⟩:=h.KD;exact⟨r,h1⟩
theorem BU.step{L:List Let}(h:BU F ls ms L)(h4:ls.length<=400)(hmr:okR F L m):∃M,aK S 45 [dR F L,GW m] (kW F M)/\BU F ls (ms++[m]) M:=by
 have hm:=hmr.1;have aI:L≠[]:=by obtain⟨_,⟨a,ha,_⟩,_⟩:=hm;intro e;rw[e] at ha;exact absurd ha (nE a)
 obtain⟨G,e,g⟩:=ss h.chk aI;have:F=G:=aa;subst this;have hk:m.k=1\/m.k=4\/m.k=6:=by
  have:=hm.1
  simpa using this
 obtain⟨M,ha,hc,au,_,_⟩:=akZ g hm hk;have zK:k5 m.k:=by unfold k5;omega
 have pa:=Zp g zK m.a m.b m.c m.l m.o m.s;rw[ha] at pa;have hl:=h.len;refine⟨M,pa,⟨by rw[ff];simp only[dh,ez];omega,hc,by rw[agD m h.rep];exact SJ aI ha,fun x hx=>?_,fun i x hx=>?_⟩⟩
 .rcases eD.1 hx with h1|h1
  .exact h.kind x h1
  rw[lD.1 h1];exact hm.1
 by_cases hi:i<ms.length
 .rw[uY hi] at hx;rw[OI aa];exact h.rdg i x hx
 have e:i=ms.length:=by have:=(aW.1 hx).1;simp only[ff,dh,ez] at this;omega
 subst e;rw[v8 (bJ _),HO] at hx;cases hx;rw[Lc];exact⟨L,h.rep,h.chk,hmr.2⟩
theorem BU.start(h:cQ (F:Int) ls=0):BU F ls [] ls:=⟨bJ _,h,rfl,fun m h=>(by cases h),fun i m h=>(by cases h)⟩
def XH(F:Nat)(ls:List Let)(ms:List aP)(M:List Let)(r:RV):Prop:=(ms=[]/\M=ls/\r=.tup [.agg [.p (.int .i64 F),.p (cK ls)],.one (.p .nils)])\/r=.tup [.agg [.p (.int .i64 F),aT lN 6 (dF M)],.one (aT fK 7 (mP ms))]
theorem asp(iW:cQ (F:Int) ls=0)(hlen:ls.length<=400):∃r,(∃ms M,BU F ls ms M/\Db F M/\XH F ls ms M r)/\aK S 28 [dR F ls] r:=by
 have mR:S.lone 1792320128=false:=ah;have red:∀L,cQ (F:Int) L=0->∃m b,aK S 30 [dR F L] (BA m b)/\(b=true->okR F L m)/\(b=false->Db F L):=by
  intro L h;rcases agy h with ⟨m,h1,_,h2⟩|⟨h1,h2⟩
  .exact⟨m,true,h2,fun _=>⟨h1,h2⟩,fun h=>(by cases h)⟩
  exact⟨Ow,false,h2,fun h=>(by cases h),fun _=>h1⟩
 refine HS rfl c28 (ig rfl) ?_;obtain⟨m0,b0,pr0,k1,k2⟩:=red ls iW;simp only[go_sem,i28,s30,cV pr0 QA];refine cU (fun k ak aj=>∃L ms c d m b gm idm,(idm=1792128320\/idm=1792512000)/\ak 1=.one (.aY 1792000000 1 0)/\ak 2=.one (.aY 1792000064 1 0)/\aj 1792000064=(1,some (.var [.p (.int .i64 0),.p .nils]))/\ak 6=.one (.p (.bool b))/\ak 4=.one d/\ak 5=.one (.aY idm gm 0)/\aj idm=(gm,some (.var (m.ps.map .p)))/\aj 1792000000=(1,some (.var [.p (.int .i64 F),c]))/\SU F ls ms L c aj/\grown 1792384192 fK 7 (mP ms) (.one d) aj/\ms.length=k/\BU F ls ms L/\(b=true->okR F L m)/\(b=false->Db F L)) 0 ls.length (bl _) ?_ ?_
 .simp only[go_sem];refine⟨ls,[],.p (cK ls),.p .nils,m0,b0,1,1792128320,.inl rfl,?_⟩;exact⟨rfl,rfl,rfl,rfl,rfl,.inl ⟨rfl,rfl,rfl⟩,grown.nil,rfl,BU.start iW,k1,k2⟩
 rintro k ak aj hk ⟨L,ms,c,d,m,b,gm,idm,hid,h1,h2,bZ,h6,h4,h5,bm,b0,hc,gp,yf,hR,aq,dk⟩
 rcases hid with rfl|rfl
 .have hcB:=hc;obtain⟨rd,l8⟩:=hcB.snap;simp only[aP.ps,dK,j7] at bm;cases b with
  |false=>
   simp only[go_sem,i28_l1,i28_r2,h1,h2,h4,h6,b0,bZ];rcases hc with ⟨rfl,rfl,rfl⟩|gc
   .rcases gp with ⟨_,e2⟩|⟨aI,_⟩
    .cases e2;exact⟨_,⟨[],_,hR,dk rfl,.inl ⟨rfl,rfl,rfl⟩⟩,rfl⟩
    exact absurd rfl aI
   exact⟨_,⟨ms,L,hR,dk rfl,.inr rfl⟩,afU ae (gc.of_eq (bd ae)) (gp.of_eq (bd ae))⟩
  |true=>
   obtain⟨M,pa,F9⟩:=hR.step hlen (aq rfl);obtain⟨m2,b2,pr2,k1,k2⟩:=red M F9.chk;have anZ:=hR.len;simp only[go_sem,i28_l1,h1,h5,h6,bm,b0,l8,s45];refine acA pa mR rfl rfl (Kz _) fun cc bQ gc hb=>?_;have q0:=hb 1792000000 ae;have q1:=hb 1792128320 ae;have q2:=hb 1792000064 ae;simp only[go_sem,b0,bm,bZ] at q0 q1 q2;have F5:=gp.of_eq (hb 1792384192 ae);simp only[go_sem,h1,h4,h5,q0,q1];refine sB (xs:=[aP.ps m]) (F5.of_eq (by simp only[aN,Nat.reduceEqDiff,if_false])) (by simp only[fh,aN,if_true];rfl) (.inl rfl) (by simp only[ow,dh,ez];omega) fun d2 bj gp2 bn=>?_
   have r0:=bn 1792000000 ae ae;have r1:=bn 1792128320 ae ae;have r2:=bn 1792000064 ae ae;simp only[go_sem,q0,q1,q2] at r0 r1 r2;have vk:grown 1792320129 lN 6 (dF M) (.one cc) bj:=(show grown 1792320129 lN 6 (dF M) (.one cc) bQ from gc).of_eq ((bn 1792320129 ae ae).trans (by simp only[aN,Nat.reduceEqDiff,if_false]));obtain⟨rd2,fp,_⟩:=vk.KD;simp only[go_sem,h1,h2,h4,h5,h6,r0,r1,r2,fp,s30,cV pr2 QA];have sK:=F9.len;rw[ff] at sK
   simp only[dh,ez] at sK;refine⟨aa,M,ms++[m],cc,d2,m2,b2,_,1792512000,.inr rfl,rfl,rfl,rfl,aF rfl,rfl,.inr (vk.of_eq (by simp only[aN,Nat.reduceEqDiff,if_false])),?_,by simp[yf],F9,k1,k2⟩;rw[show mP (ms++[m])=mP ms++[aP.ps m] by simp[mP]];exact gp2.of_eq (by simp only[aN,Nat.reduceEqDiff,if_false])
 have hcB:=hc;obtain⟨rd,l8⟩:=hcB.snap;simp only[aP.ps,dK,j7] at bm;cases b with
 |false=>
  simp only[go_sem,i28_l1,i28_r2,h1,h2,h4,h6,b0,bZ];rcases hc with ⟨rfl,rfl,rfl⟩|gc
  .rcases gp with ⟨_,e2⟩|⟨aI,_⟩
   .cases e2;exact⟨_,⟨[],_,hR,dk rfl,.inl ⟨rfl,rfl,rfl⟩⟩,rfl⟩
   exact absurd rfl aI
  exact⟨_,⟨ms,L,hR,dk rfl,.inr rfl⟩,afU ae (gc.of_eq (bd ae)) (gp.of_eq (bd ae))⟩
 |true=>
  obtain⟨M,pa,F9⟩:=hR.step hlen (aq rfl);obtain⟨m2,b2,pr2,k1,k2⟩:=red M F9.chk;have anZ:=hR.len;simp only[go_sem,i28_l1,h1,h5,h6,bm,b0,l8,s45];refine acA pa mR rfl rfl (Kz _) fun cc bQ gc hb=>?_;have q0:=hb 1792000000 ae;have q1:=hb 1792512000 ae;have q2:=hb 1792000064 ae;simp only[go_sem,b0,bm,bZ] at q0 q1 q2;have F5:=gp.of_eq (hb 1792384192 ae);simp only[go_sem,h1,h4,h5,q0,q1];refine sB (xs:=[aP.ps m]) (F5.of_eq (by simp only[aN,Nat.reduceEqDiff,if_false])) (by simp only[fh,aN,if_true];rfl) (.inl rfl) (by simp only[ow,dh,ez];omega) fun d2 bj gp2 bn=>?_
  have r0:=bn 1792000000 ae ae;have r1:=bn 1792512000 ae ae;have r2:=bn 1792000064 ae ae;simp only[go_sem,q0,q1,q2] at r0 r1 r2;have vk:grown 1792320129 lN 6 (dF M) (.one cc) bj:=(show grown 1792320129 lN 6 (dF M) (.one cc) bQ from gc).of_eq ((bn 1792320129 ae ae).trans (by simp only[aN,Nat.reduceEqDiff,if_false]));obtain⟨rd2,fp,_⟩:=vk.KD;simp only[go_sem,h1,h2,h4,h5,h6,r0,r1,r2,fp,s30,cV pr2 QA];have sK:=F9.len;rw[ff] at sK
  simp only[dh,ez] at sK;refine⟨aa,M,ms++[m],cc,d2,m2,b2,_,1792512000,.inr rfl,rfl,rfl,rfl,aF rfl,rfl,.inr (vk.of_eq (by simp only[aN,Nat.reduceEqDiff,if_false])),?_,by simp[yf],F9,k1,k2⟩;rw[show mP (ms++[m])=mP ms++[aP.ps m] by simp[mP]];exact gp2.of_eq (by simp only[aN,Nat.reduceEqDiff,if_false])
section
variable {F:Nat} {L:List Let}
theorem Zo(g:cH F L)(hk:k5 m.k):jT F L m=if cS F L m.k m.a m.b m.c m.l m.o m.s=true then (qu F L m.k m.a.toNat m.b.toNat m.c.toNat m.l m.o m.s).map lV else none:=by
 have hg:lJ m.k=(0,0):=by unfold k5 at hk;rcases hk with h|h|h|h|h<;>rw[h]<;>rfl
 have h1:=g.len;have h2:=g.cr;unfold jT;rw[ay g.ne,hg];split
 .cases qu F L m.k m.a.toNat m.b.toNat m.c.toNat m.l m.o m.s with
  |none=>rfl
  |some X=>dsimp only;rw[ay aa];rfl
 rfl
theorem Ln(g:cH F L)(hk:k5 m.k){X:List Let}(h:jT F L m=some X):cQ (F:Int) X=0/\cS F L m.k m.a m.b m.c m.l m.o m.s=true/\ ∃P,qu F L m.k m.a.toNat m.b.toNat m.c.toNat m.l m.o m.s=some P/\X=lV P:=by
 rw[Zo g hk] at h;split at h
 case isFalse=>cases h
 rename_i hA;obtain⟨P,hP,rfl⟩:=dE.1 h;refine⟨?_,hA,P,hP,rfl⟩;rcases OU g hk m.a m.b m.c m.l m.o m.s with ⟨e,he,h1⟩|⟨M',h1,h2,h3,Q,h4,rfl⟩
 .exfalso;have hg:lJ m.k=(0,0):=by
   unfold k5 at hk;rcases hk with h|h|h|h|h<;>rw[h]<;>rfl
  have k1:=g.len;have k2:=g.cr;unfold nI at h1;rw[aF hA,hP] at h1;have e2:zi F L m.k (some P)=kW F (lV P):=ay (by rw[hg];dsimp only;omega);rw[e2] at h1;exact asI he h1
 rw[hP] at h4;cases h4;exact h2
abbrev mv2(k:Int)(a b:Nat):aP:=⟨k,a,b,0,false,false,0⟩
abbrev mv3(k:Int)(a b c:Nat):aP:=⟨k,a,b,c,false,false,0⟩
theorem OV{k a b c sg:Int}{l o:Bool}(hk:k=1\/k=4):cS F L k a b c l o sg=true↔ ∃av:Nat,av<L.length/\a=av/\b=0/\c=0/\l=false/\o=false/\sg=0:=by
 unfold cS;rcases hk with rfl|rfl
 all_goals
  simp only[Int.reduceEq,if_true,if_false,or_false,or_true,cN,mv,dI];constructor
  .rintro ⟨rfl,rfl,rfl,hx,rfl,rfl⟩
   obtain⟨av,rfl,ha⟩:=mO hx;exact⟨av,ha,rfl,rfl,rfl,rfl,rfl,rfl⟩
  rintro ⟨av,ha,rfl,rfl,rfl,rfl,rfl,rfl⟩
  exact⟨rfl,rfl,rfl,by unfold iZ;simp;omega,rfl,rfl⟩
theorem Zq{k a b c sg:Int}{l o:Bool}(hk:k=3\/k=6):cS F L k a b c l o sg=true↔ ∃av bv:Nat,av<bv/\bv<L.length/\a=av/\b=bv/\c=0/\l=false/\o=false/\sg=0:=by
 unfold cS;rcases hk with rfl|rfl
 all_goals
  simp only[Int.reduceEq,if_true,if_false,or_false,or_true,cN,mv,dI,pR];constructor
  .rintro ⟨rfl,rfl,rfl,hx,rfl,hy,au⟩
   obtain⟨av,rfl,ha⟩:=mO hx;obtain⟨bv,rfl,hb⟩:=mO hy;exact⟨av,bv,aa,hb,rfl,rfl,rfl,rfl,rfl,rfl⟩
  rintro ⟨av,bv,eH,hb,rfl,rfl,rfl,rfl,rfl,rfl⟩
  exact⟨rfl,rfl,rfl,by unfold iZ;simp;omega,rfl,by unfold iZ;simp;omega,aa⟩
theorem ajm{a b c sg:Int}{l o:Bool}:cS F L 8 a b c l o sg=true↔ ∃av bv cv:Nat,av<bv/\bv<cv/\cv<L.length/\a=av/\b=bv/\c=cv/\l=false/\o=false/\sg=0:=by
 unfold cS;simp only[Int.reduceEq,if_true,if_false,or_self,cN,mv,dI,pR];constructor
 .rintro ⟨rfl,rfl,rfl,hx,hy,hz,h1,h2⟩
  obtain⟨av,rfl,ha⟩:=mO hx;obtain⟨bv,rfl,hb⟩:=mO hy;obtain⟨cv,rfl,hc⟩:=mO hz;exact⟨av,bv,cv,aa,aa,hc,rfl,rfl,rfl,rfl,rfl,rfl⟩
 rintro ⟨av,bv,cv,eH,Jb,hc,rfl,rfl,rfl,rfl,rfl,rfl⟩
 exact⟨rfl,rfl,rfl,by unfold iZ;simp;omega,by unfold iZ;simp;omega,by unfold iZ;simp;omega,aa,aa⟩
theorem apY:∀ {A B:List aP},mP A=mP B->A=B:=by
 intro A
 induction A with
 |nil=>intro B h;cases B with
  |nil=>rfl
  |cons b B=>cases h
 |cons a A ih=>
  intro B h;cases B with
  |nil=>cases h
  |cons b B=>
   have h:aP.ps a::mP A=aP.ps b::mP B:=h;obtain⟨h1,h2⟩:=List.cons.inj h;rw[ih h2];cases a;cases b;unfold aP.ps at h1;simp only[yL,PV.int.injEq,PV.bool.injEq,true_and,and_true] at h1;simp only[yL,aP.mk.injEq,and_true]
   simp_all
theorem ane{A B:List aP}(h:(RV.tup [.one (aT fK 7 (mP A)),.one (.p (.int .i64 0))])=.tup [.one (aT fK 7 (mP B)),.one (.p (.int .i64 0))]):A=B:=by
 simp only[RV.tup.injEq,yL,RV.one.injEq,and_true] at h;apply apY;unfold aT at h;by_cases a:mP A=[]<;>by_cases b:mP B=[]
 .rw[a,b]
 .rw[aF a,ay b] at h;cases h
 .rw[ay a,aF b] at h;cases h
 rw[ay a,ay b] at h;simp only[RC.own.injEq] at h;exact h.2.2
theorem aal{pl a b:Nat}{kk:Int}(eH:a<b)(h:pY F L pl [a,b] a=true)(hs:∀j,j<2->jL kk a (kM F L (2*a+j)).cG ns)(h8:kk≠8):mv2 kk a b∈ns:=by
 have key:∀f:Fc,xF f pl [a,b]=true->jL kk a f.cG ns->mv2 kk a b∈ns:=fun f hf hs=>by
  unfold xF at hf;simp only[cN,dI,jd] at hf;obtain⟨h1,_,h3⟩:=hf;have ex:∀e∈[a,b],∃d∈f.cG,d/2=e:=fun e he=>by have h4:=h3 e he;unfold wG at h4;obtain⟨d,hd,rF⟩:=yN.1 (show 0<f.cG.countP fun d=>d/2==e by omega);exact⟨d,hd,dI.1 rF⟩
  exact hs.1 h8 b eH h1 (ex a af) (ex b af)
 unfold pY at h;rw[yJ] at h;rcases h with h|h
 .exact key _ h (hs 0 ae)
 exact key _ h (hs 1 ae)
theorem akS{pl a b c:Nat}(eH:a<b)(Jb:b<c)(h:pY F L pl [a,b,c] a=true)(hs:∀j,j<2->jL 8 a (kM F L (2*a+j)).cG ns):mv3 8 a b c∈ns:=by
 have key:∀f:Fc,xF f pl [a,b,c]=true->jL 8 a f.cG ns->mv3 8 a b c∈ns:=fun f hf hs=>by
  unfold xF at hf;simp only[cN,dI,jd] at hf;obtain⟨h1,_,h3⟩:=hf;have ex:∀e∈[a,b,c],∃d∈f.cG,d/2=e:=fun e he=>by have h4:=h3 e he;unfold wG at h4;obtain⟨d,hd,rF⟩:=yN.1 (show 0<f.cG.countP fun d=>d/2==e by omega);exact⟨d,hd,dI.1 rF⟩
  exact hs.2 rfl b c eH Jb h1 (ex a af) (ex b af) (ex c af)
 unfold pY at h;rw[yJ] at h;rcases h with h|h
 .exact key _ h (hs 0 ae)
 exact key _ h (hs 1 ae)
theorem akh(g:cH F L){X:List Let}(hk:k5 m.k)(h:jT F L m=some X)(hc:CP F L m.k ns):m∈ns:=by
 obtain⟨k,a,b,c,l,o,sg⟩:=m;obtain⟨_,hA,P,hP,_⟩:=Ln g hk h;simp only at hA hP hc;have hk:k5 k:=hk;unfold k5 at hk;rcases hk with rfl|rfl|rfl|rfl|rfl
 .obtain⟨av,ha,rfl,rfl,rfl,rfl,rfl,rfl⟩:=(OV (.inl rfl)).1 hA;exact hc.1 (.inl rfl) av ha
 .obtain⟨av,bv,eH,hb,rfl,rfl,rfl,rfl,rfl,rfl⟩:=(Zq (.inl rfl)).1 hA;have hP:u9 F L av bv=some P:=hP;unfold u9 at hP;split at hP
  case isFalse=>cases hP
  rename_i ht;simp only[cN] at ht;exact aal eH ht.2.2.2.2 (hc.2 (.inl rfl) av aa) ae
 .obtain⟨av,ha,rfl,rfl,rfl,rfl,rfl,rfl⟩:=(OV (.inr rfl)).1 hA;exact hc.1 (.inr rfl) av ha
 .obtain⟨av,bv,eH,hb,rfl,rfl,rfl,rfl,rfl,rfl⟩:=(Zq (.inr rfl)).1 hA;have hP:vO F L av bv=some P:=hP;unfold vO at hP;split at hP
  case isFalse=>cases hP
  rename_i ht;simp only[cN] at ht;exact aal eH ht.2.2.2.2.2 (hc.2 (.inr (.inl rfl)) av aa) ae
 obtain⟨av,bv,cv,eH,Jb,bR,rfl,rfl,rfl,rfl,rfl,rfl⟩:=ajm.1 hA;have hP:ub F L av bv cv=some P:=hP;unfold ub at hP;split at hP
 case isFalse=>cases hP
 rename_i ht;unfold Ho at ht;simp only[cN] at ht;exact akS eH Jb ht.2.2.2.2.2 (hc.2 (.inr (.inr rfl)) av aa)
theorem ajd(g:cH F L){X:List Let}(hk:k5 m.k)(h:jT F L m=some X):nI F L m.k m.a m.b m.c m.l m.o m.s=kW F X:=by
 obtain⟨_,hA,P,hP,rfl⟩:=Ln g hk h;have hg:lJ m.k=(0,0):=by unfold k5 at hk;rcases hk with h|h|h|h|h<;>rw[h]<;>rfl
 have k1:=g.len;have k2:=g.cr;unfold nI;rw[aF hA,hP];exact ay (by rw[hg];dsimp only;omega)
theorem aiJ(g:cH F L)(jm:want.length<=10)(hw:∀k∈want,sW k)(hs:aK S 44 [dR F L,.one (.p (.sl (iP want)))] (.tup [.one (aT fK 7 (mP ms)),.one (.p (.int .i64 0))])){X:List Let}(hm:m.k∈want)(h:jT F L m=some X):m∈ms:=by obtain⟨NO,⟨_,_,hc,_⟩,hs'⟩:=aiI g want jm hw;rw[ane (aK.zg hs hs')];have hk:k5 m.k:=hw _ hm;obtain⟨ns,h1,h2⟩:=hc m.k hm (by unfold k5 at hk;omega) (by unfold k5 at hk;omega);exact h2 m (akh g hk h h1) ⟨X,ajd g hk h⟩
theorem aqH(h:cQ (F:Int) L=0)(hw:∀k∈want,sW k)(hm:qV F L want m):m.k∈want/\cH F L/\ ∃X,jT F L m=some X/\cQ (F:Int) X=0:=by
 obtain⟨h1,⟨a,ha,_⟩,X,hX⟩:=hm;have aI:L≠[]:=fun e=>by rw[e] at ha;simp at ha
 obtain⟨G,e,g⟩:=ss h aI;have:F=G:=aa;subst this;have h2:=SJ aI hX;exact⟨h1,g,X,h2,(Ln g (hw _ h1) h2).1⟩
end
end
end Go.Abs
