/-
  The moves that are tried and those that are possible; the reducing search.
-/
import Derived.Test.YtffbakabajjgcaaGreatDoorUe
import Derived.Test.YtffbakabajjgcaaGreatDoorRa
set_option linter.all false
set_option maxRecDepth 100000
set_option maxHeartbeats 16000000
namespace Go.Abs
section
variable{kk:Int}{ms ns:List aU}{F av:Nat}{D:List Nat}{m:aU}
def Qg(q:Pc->Bool):Prop:=∀p p':Pc,p.l.kind=p'.l.kind->q p=q p'
section
variable {F:Nat} {ls:List Let}
theorem afh(g:bQ F ls){q:Pc->Bool}:∀(es:List Nat) (l:List Pc),l.length=ls.length->(∀e∈es,e<ls.length)->(im ls l es).countP q=l.countP q:=by
 intro es
 induction es with
 |nil=>intro l _ _;rfl
 |cons e es ih=>intro l hl he;show(im ls (gk ls l e) es).countP q=_;rw[ih _ (by rw[HC,hl]) fun e h=>he e (by simp[h]),Kq hl (he e af) (Vj g (he e af))]
theorem aeK{q:Pc->Bool}(hq:Qg q)(l:List Pc)(i:Nat)(r:Int):(iK l i r).countP q=l.countP q:=by
 by_cases h:i<l.length
 .obtain⟨p,hp⟩:=aM h;exact VT hp fun p=>hq _ _ rfl
 unfold iK;rw[agb aa]
def k5 (k:Int):Prop:=k=3\/k=8
theorem acS(g:bQ F ls){q:Pc->Bool}(hq:Qg q){k:Int}(hk:k5 k){a b c:Nat}{l o:Bool}{sg:Int}(ha:a<ls.length)(hb:b<ls.length\/(k≠3/\k≠8))(hc:c<ls.length\/k≠8){L:List Pc}(h:sC F ls k a b c l o sg=some L):L.countP q<=(pieces ls).countP q:=by
 have cK:=jJ ls;rcases hk with rfl|rfl
 .have h:uy F ls a b=some L:=h;unfold uy at h;split at h
  .cases h;rw[afh g _ _ (by rw[Bt,Bt,cK]) (by
    intro e he;simp only[cI,iM,or_false] at he;rcases he with rfl|rfl
    .exact ha
    rcases hb with hb|hb
    .exact hb
    exact absurd rfl hb.1),aeK hq,aeK hq]
   exact bJ _
  cases h
 have h:tC F ls a b c=some L:=h;unfold tC at h;split at h
 .cases h;rw[afh g _ _ cK (by
   intro e he;simp only[cI,iM,or_false] at he;rcases he with rfl|rfl|rfl
   .exact ha
   .rcases hb with hb|hb
    .exact hb
    exact absurd rfl hb.2
   rcases hc with hc|hc
   .exact hc
   exact absurd rfl hc)]
  exact bJ _
 cases h
theorem do5(g:bQ F ls){k:Int}(hk:k5 k)(a b c:Int)(l o:Bool)(sg:Int):aF S 78 [.one (.p (fO F ls)),fE k a b c l o sg] (oO F ls k a b c l o sg):=by
 have pa:=ahf (F:=F) (ls:=ls) (a:=a) (b:=b) (c:=c) (l:=l) (o:=o) (sg:=sg) k;have hlen:=g.len;have fU:=g.cr;unfold oO;cases hA:bY F ls k a b c l o sg with
 |false=>rw[hA] at pa;exact ai9 pa
 |true=>
  rw[hA] at pa;rw[aD rfl];have hL:∀L,sC F ls k a.toNat b.toNat c.toNat l o sg=some L->L.length<=1000000:=fun L h=>by have:=aor h;omega
  have ne:=g.ne;have gj:¬ls.length=0:=by have:=jl.2 ne;omega
  unfold bY at hA;by_cases h3:k=3
  .subst h3;simp only[Int.reduceEq,if_true,if_false,or_false,or_self] at hA;simp only[cN,sM,dL,kV] at hA;obtain⟨rfl,rfl,rfl,hx,rfl,hy,aq⟩:=hA;obtain⟨av,rfl,ha⟩:=ug hx;obtain⟨bv,rfl,hb⟩:=ug hy;simp only[FN] at hL ⊢;exact Zc hlen fU (k:=3) rfl ae ah pa (ahv g ha hb) hL
  by_cases h8:k=8
  .subst h8;simp only[Int.reduceEq,if_true,if_false,or_self] at hA;simp only[cN,sM,dL,kV] at hA;obtain⟨rfl,rfl,rfl,hx,hy,hz,_,_⟩:=hA;obtain⟨av,rfl,ha⟩:=ug hx;obtain⟨bv,rfl,hb⟩:=ug hy;obtain⟨cv,rfl,hc⟩:=ug hz;simp only[FN] at hL ⊢;exact Zc hlen fU (k:=8) rfl ae ah pa (as1 g ha hb hc) hL
  exact absurd hk (by rintro (h|h)<;>contradiction)
theorem aha(g:bQ F ls){k:Int}(hk:k5 k)(a b c:Int)(l o:Bool)(sg:Int):aF S 41 [cZ F ls,fE k a b c l o sg] (oO F ls k a b c l o sg):=ahb (Vs g) (do5 g hk a b c l o sg) ag6
theorem Sv(g:bQ F ls){k:Int}(hk:k5 k)(a b c:Int)(l o:Bool)(sg:Int):(∃e,e≠0/\oO F ls k a b c l o sg=sH e)\/ ∃M,oO F ls k a b c l o sg=mz F M/\di F M=0/\bY F ls k a b c l o sg=true/\ ∃L,sC F ls k a.toNat b.toNat c.toNat l o sg=some L/\M=nh L:=by
 unfold oO;cases hA:bY F ls k a b c l o sg
 .exact .inl ⟨2,ae,rfl⟩
 rw[aD rfl];cases hm:sC F ls k a.toNat b.toNat c.toNat l o sg with
 |none=>exact .inl ⟨4,ae,rfl⟩
 |some L=>
  unfold ze;by_cases r5:(400:Int)<(ls.length:Int)+(lR k).1\/(100:Int)<((aC Let.aG ls/2:Nat):Int)+(lR k).2
  .exact .inl ⟨7,ae,aD r5⟩
  refine .inr ⟨nh L,ay r5,?_,rfl,L,rfl,rfl⟩;have hlen:=g.len;have fU:=g.cr;have hF:=g.fing;have ne:=g.ne;have gj:¬ls.length=0:=by have:=jl.2 ne;omega
  have dR:aC Let.aG ls%2=0:=by have:=g.cz.ev;rwa[tD] at this
  have cK:=jJ ls;have kT:Qg (fun _=>true):=fun _ _ _=>rfl;have kC:Qg (fun p=>p.l.aG):=fun p p' h=>by show(p.l.kind==2)=(p'.l.kind==2);rw[h]
  have pC:(pieces ls).countP (fun p=>p.l.aG)=aC Let.aG ls:=by rw[<- VA (ls:=ls) Let.aG];show _=List.countP _ (List.map _ _);rw[KJ];rfl
  have lC:aC Let.aG (L.map Pc.l)=L.countP (fun p=>p.l.aG):=by show List.countP _ (List.map _ _)=_;rw[KJ];rfl
  have tT:∀l:List Pc,l.countP (fun _=>true)=l.length:=fun l=>af;have fin:L=[]\/Cert F L->(∀ {av bv cv:Nat},a=(av:Int)->b=(bv:Int)->c=(cv:Int)->av<ls.length->(bv<ls.length\/(k≠3/\k≠8))->(cv<ls.length\/k≠8)->di F (nh L)=0):=by
   intro hc av bv cv e1 e2 e3 ha hb wI;subst e1 e2 e3;simp only[FN] at hm;have c1:=acS g kT hk ha hb wI hm;have c2:=acS g kC hk ha hb wI hm;rw[tT,tT,cK] at c1;rw[pC] at c2;rcases hc with rfl|hc
   .unfold di;have:nh []=[]:=rfl;rw[this];rw[ay (by simp[aC]),ay aa,aD rfl]
   exact hc.check aa (by rw[lC];omega) hF
  unfold bY at hA;by_cases h3:k=3
  .subst h3;simp only[Int.reduceEq,if_true,if_false,or_false,or_self] at hA;simp only[cN,sM,dL,kV] at hA;obtain⟨rfl,rfl,rfl,hx,rfl,hy,aq⟩:=hA;obtain⟨av,rfl,ha⟩:=ug hx;obtain⟨bv,rfl,hb⟩:=ug hy;exact fin (.inr (aie g ha hb aa (by simpa [sC] using hm))) rfl rfl (cv:=0) rfl ha (.inl hb) (.inr ae)
  by_cases h8:k=8
  .subst h8;simp only[Int.reduceEq,if_true,if_false,or_self] at hA;simp only[cN,sM,dL,kV] at hA;obtain⟨rfl,rfl,rfl,hx,hy,hz,_,_⟩:=hA;obtain⟨av,rfl,ha⟩:=ug hx;obtain⟨bv,rfl,hb⟩:=ug hy;obtain⟨cv,rfl,hc⟩:=ug hz;exact fin (.inr (aif g ha hb hc (by simpa [sC] using hm))) rfl rfl rfl ha (.inl hb) (.inl hc)
  exact absurd hk (by rintro (h|h)<;>contradiction)
end
def pL(x y:aU):Bool:=decide (x.b<y.b)||(decide (x.b=y.b)&&decide (x.c<y.c))
def FC(m:aU):Prop:=(0<=m.b/\m.b<=1000000)/\0<=m.c/\m.c<=1000000
theorem Wj:Swo pL:=⟨fun a b h=>by unfold pL at*;simp at*;omega,fun a b c h k=>by unfold pL at*;simp at*;omega⟩
theorem aix(x y:aU)(hx:FC x)(hy:FC y):∃n:Int,aF S 175 [Hi x,Hi y] (ri n)/\(decide (n<0)=pL x y):=by
 obtain⟨⟨x1,x2⟩,x3,x4⟩:=hx;obtain⟨⟨y1,y2⟩,y3,y4⟩:=hy;have w1:IntKind.i64.wrap (x.b-y.b)=x.b-y.b:=rM aa aa;have w2:IntKind.i64.wrap (x.c-y.c)=x.c-y.c:=rM aa aa;cases hb:(x.b==y.b) with
 |true=>
  have e:x.b=y.b:=eq_of_beq hb;refine⟨x.c-y.c,?_,?_⟩
  .refine aV c175 ?_;simp only[go_sem,i175,bne,hb,w2]
  unfold pL;rw[BB];simp;omega
 |false=>
  have e:¬x.b=y.b:=by simpa using hb
  refine⟨x.b-y.b,?_,?_⟩
  .refine aV c175 ?_;simp only[go_sem,i175,bne,hb,w1]
  unfold pL;rw[BB];simp;omega
abbrev mP(o:List aU):List (List PV):=o.map aU.ps
theorem acG(o:List aU)(k:Nat)(v:aU):(mP o).set k v.ps=mP (o.set k v):=by simp[yM]
theorem mN(o:List aU):(mP o).length=o.length:=cH _
def Kl(id g ty:Nat)(es:List aU)(aj:aw)(v:V)(ao:aw):Prop:=v=.tup []/\(∃ws:List aU,ao id=(g,some (.arr ty 7 (mP ws)))/\ws.Perm es/\u7 pL ws 0 ws.length)/\Kept (· =id) aj ao
abbrev DZ:V:=.one (.p (.fn 175 [] []))
theorem amF{al:Al}{aj:aw}{id g ty:Nat}{es:List aU}(o:al.ok id=true)(hl:es.length<=1000000)(EO:∀m∈es,FC m)(hC:aj id=(g,some (.arr ty 7 (mP es)))):
  ∃v ao,iw S 240 [.one (.hsl id g 7 0 es.length),vi 0,vi es.length,DZ] al aj v ao/\Kl id g ty es aj v ao:=by
 have scm:S.shared 175=false:=ah;refine mV c240 (iv rfl) ?_;have w0:IntKind.i64.wrap (0+1)=((0+1:Nat):Int):=ae;simp only[go_sem,i240];refine cJ (fun k ak ao=>ak 0=.one (.hsl id g 7 0 es.length)/\ak 1=vi 0/\ak 2=vi es.length/\ak 3=DZ/\ak 8=vi ((k+1:Nat):Int)/\ ∃zs:List aU,ao id=(g,some (.arr ty 7 (mP zs)))/\zs.Perm es/\u7 pL zs 0 (k+1)/\Kept (· =id) aj ao) 0 es.length (bj _) ?_ ?_
 .simp only[go_sem];exact⟨rfl,es,hC,.refl _,fun p q x y _ h1 h2=>aa,Kept.refl _ _⟩
 rintro k ak cn hk ⟨h0,h1,h2,h3,h6,zs,hZ,hp,hs,dq⟩
 have pJ:=hp.length_eq;by_cases aq:k+1<es.length
 .have aL:((k+1:Nat):Int)<(es.length:Int):=aa;obtain⟨x,hx⟩:=aM (ls:=zs) (k:=k+1) aa;have sx:FC x:=EO x (hp.mem_iff.1 (aW hx));simp only[go_sem,i240_l3,h2,h6,aL];refine cJ (fun q ak ao=>ak 0=.one (.hsl id g 7 0 es.length)/\ak 1=vi 0/\ak 2=vi es.length/\ak 3=DZ/\ak 8=vi ((k+1:Nat):Int)/\ak 9=vi ((k+1-q:Nat):Int)/\ ∃ws:List aU,ao id=(g,some (.arr ty 7 (mP ws)))/\yP pL zs ws x 0 (k+1) (k+1-q)/\Kept (· =id) aj ao) 0 (k+1) (bj _) ?_ ?_
  .simp only[go_sem,h0,h1,h2,h3,h6];exact⟨zs,hZ,yP.start (bj _) hx hs,dq⟩
  rintro q dp ba hq ⟨k0,k1,k2,k3,k6,k7,ws,hW,hI,GI⟩
  have iW:ws.length=es.length:=hI.perm.length_eq.trans pJ;have wk:IntKind.i64.wrap (((k+1:Nat):Int)+1)=((k+1+1:Nat):Int):=bN (n:=k+1) aa;by_cases hj0:k+1-q=0
  .have e7:¬((0:Int)<((k+1-q:Nat):Int)):=aa;simp only[go_sem,i240_l1,i240_r2,k0,k1,k2,k3,k6,k7,e7,wk];refine⟨aK,aa,ws,hW,hI.perm.trans hp,hI.stop Wj (.inl hj0),GI⟩
  obtain⟨j,hj⟩:∃j,k+1-q=j+1:=⟨k-q,aa⟩;have e7:((0:Int)<((j+1:Nat):Int)):=aa;obtain⟨y,hy⟩:=aM (ls:=ws) (k:=j) aa;have sy:FC y:=EO y ((hI.perm.trans hp).mem_iff.1 (aW hy));rw[hj] at hI k7;have wj:IntKind.i64.wrap (((j+1:Nat):Int)-1)=(j:Int):=by rw[ur aa];omega
  have ue:=JN hI.at';have CR:=JN hy;have j1:j+1<es.length:=by have:=hI.le;omega
  have j2:j<es.length:=aa;obtain⟨n,pl,hn⟩:=aix x y sx sy;cases qx:pL x y with
  |false=>
   rw[qx] at hn;have GK:¬(n<0):=by simpa using hn
   simp only[go_sem,i240_l1,i240_r2,k0,k1,k2,k3,k6,k7,e7,wk,wj,hW,ue,CR,aU.ps,j1,j2,o,scm,OX pl,GK];refine⟨aK,aa,ws,rfl,hI.perm.trans hp,hI.stop Wj (.inr ⟨y,aa,hy,qx⟩),GI⟩
  |true=>
   rw[qx] at hn;have GK:n<0:=by simpa using hn
   have wD:=hI.step Wj (bj _) hy qx;have hjj:¬(j+1=j):=aa;have l1:j+1<ws.length:=aa;have l2:j<ws.length:=aa;simp only[go_sem,i240_l1,i240_r2,k0,k1,k2,k3,k6,k7,e7,wj,hW,ue,CR,aU.ps,j1,j2,l1,hjj,o,scm,OX pl,GK,mC,mN];have MJ:k+1-(q+1)=j:=aa;refine⟨aK,aK,aa,by rw[MJ],(ws.set (j+1) y).set j x,by rw[<- acG,<- acG];rfl,by rw[MJ];exact wD,(GI.dj rfl _).dj rfl _⟩
 have aL:¬(((k+1:Nat):Int)<(es.length:Int)):=aa;simp only[go_sem,i240_l3,h2,h6,aL];exact⟨rfl,⟨zs,hZ,hp,hs.mono (.inl aa)⟩,dq⟩
theorem ao7{al:Al}{aj:aw}{id g ty:Nat}{es:List aU}(o:al.ok id=true)(f1:al.fs.contains 240=true)(hl:es.length<=12)(EO:∀m∈es,FC m)(hC:aj id=(g,some (.arr ty 7 (mP es))))(lim:Int):
  ∃v ao,iw S 211 [.one (.hsl id g 7 0 es.length),vi 0,vi es.length,vi lim,DZ] al aj v ao/\Kl id g ty es aj v ao:=by
 refine mV c211 (iv rfl) ?_;have w0:IntKind.i64.wrap ((es.length:Int)-0)=(es.length:Int):=by rw[Int.sub_zero];exact rM aa aa
 have kY:(es.length:Int)<=12:=aa;simp only[go_sem,i211];refine kG ?_;simp only[go_sem,i211_l1,w0,kY,s240];refine AX hC (by rfl) (.inr ⟨o,by rw[show S.sites 240=[240] by kernel_rfl];simp only[oG,sP,f1,Ar]⟩) (P:=Kl id g ty es aj) (fun qJ h1 _=>amF h1 aa EO hC) fun v ao hP=>?_;obtain⟨rfl,h2⟩:=hP;simp only[go_sem];exact⟨rfl,h2⟩
theorem ar6{al:Al}{aj:aw}{id g ty:Nat}{es:List aU}(o:al.ok id=true)(f1:(S.sites 211).all al.fs.contains=true)(hl:es.length<=12)(EO:∀m∈es,FC m)(hC:aj id=(g,some (.arr ty 7 (mP es)))):
  ∃v ao,iw S 174 [.one (.hsl id g 7 0 es.length),DZ] al aj v ao/\Kl id g ty es aj v ao:=by
 obtain⟨k,pb⟩:=SI es.length aa;have wu:IntKind.u64.wrap (es.length:Int)=(es.length:Int):=by
  have e:IntKind.u64.wrap (es.length:Int)=(es.length:Int)%18446744073709551616:=by unfold IntKind.wrap;rfl
  rw[e];omega
 refine mV c174 (iv rfl) ?_;have sbl:S.shared 171=false:=ah;simp only[go_sem,i174,wu,sbl,Ei pb,s211];refine AX hC (by rfl) (.inr ⟨o,f1⟩) (P:=Kl id g ty es aj) (fun qJ h1 h2=>ao7 h1 (by rw[h2];kernel_rfl) hl EO hC k) fun v ao hP=>?_;obtain⟨rfl,h2⟩:=hP;simp only[go_sem];exact⟨rfl,h2⟩
theorem amy(o:List Int)(x:Int)(hl:o.length<=1000000):aF S 139 [.one (.p (.sl (iP o))),vi x] (ri (match (List.range o.length).find? (zS o x) with|some k=>(k:Int)|none=> -1)):=by
 refine aV c139 ?_;simp only[go_sem,i139];refine cJ (fun k ak aj=>ak 0=.one (.p (.sl (iP o)))/\ak 1=vi x/\ak 7=vi o.length/\ak 8=vi k/\ ∀j,j<k->zS o x j=false) 0 o.length (bj _) ?_ ?_
 .simp only[go_sem];exact⟨rfl,fun j hj=>absurd hj (mT j)⟩
 rintro k ak aj hk ⟨h0,h1,h7,h8,hn⟩
 by_cases aq:k<o.length
 .have aL:((k:Int)<(o.length:Int)):=aa;obtain⟨y,hy⟩:=aM aq;have jX:=yp hy;have w1:=bN (n:=k) aa;have vu:zS o x k=(y==x):=by simp[zS,hy]
  cases hb:(y==x) with
  |true=>
   have qj:(x==y)=true:=by have:=dL.1 hb;simp[this]
   rw[hb] at vu;have hf:=Cd (p:=zS o x) aq hn vu;simp only[go_sem,i139_l1,h0,h1,h7,h8,aL,jX,qj,hf]
  |false=>
   have qj:(x==y)=false:=by
    have:¬y=x:=by simpa using hb
    simp;exact fun h=>this h.symm
   rw[hb] at vu;have GK:∀j,j<k+1->zS o x j=false:=fun j hj=>by
    rcases lL.1 hj with h|rfl
    .exact hn j h
    exact vu
   simp only[go_sem,i139_l1,h0,h1,h7,h8,aq,aL,jX,qj,w1];exact GK
 have:k=o.length:=aa;subst this;have hf:=IL (p:=zS o x) hn;simp only[go_sem,i139_l1,i139_r2,h7,h8,dG,hf]
theorem Yv(o:List Int)(x:Int)(hl:o.length<=1000000):aF S 115 [.one (.p (.sl (iP o))),vi x] (rb (o.contains x)):=by
 have pi:=amy o x hl;refine aV c115 ?_;cases hm:o.contains x with
 |true=>
  have tn:x∈o:=by simpa using hm
  obtain⟨k,hk⟩:=jd tn;have eI:=(bg.1 hk).1;cases hf:(List.range o.length).find? (zS o x) with
  |none=>have:=Of.1 hf k (fg.2 eI);simp[zS,hk] at this
  |some j=>rw[hf] at pi;have jU:(0:Int)<=(j:Int):=aa;simp only[go_sem,i115,s139,dJ pi,jU]
 |false=>
  have tn:x∉o:=by simpa using hm
  cases hf:(List.range o.length).find? (zS o x) with
  |some j=>
   have h1:=RX hf;unfold zS at h1;cases ho:o[j]? with
   |none=>rw[ho] at h1;cases h1
   |some y=>
    rw[ho] at h1;have:y=x:=by simpa using h1
    subst this;exact absurd (aW ho) tn
  |none=>rw[hf] at pi;have jU:¬(0:Int)<= -1:=ae;simp only[go_sem,i115,s139,dJ pi,jU]
def Hg(a b:aU):Bool:=(a.k==b.k)&&((a.a==b.a)&&((a.b==b.b)&&((a.c==b.c)&&((a.l==b.l)&&((a.o==b.o)&&(a.s==b.s))))))
theorem ajA(x y:aU):vg [true,true,true,true,false,false,true] [.p (.int .i64 x.k),.p (.int .i64 x.a),.p (.int .i64 x.b),.p (.int .i64 x.c),.p (.bool x.l),.p (.bool x.o),.p (.int .i64 x.s)] [.p (.int .i64 y.k),.p (.int .i64 y.a),.p (.int .i64 y.b),.p (.int .i64 y.c),.p (.bool y.l),.p (.bool y.o),.p (.int .i64 y.s)]=some (Hg x y):=by
 have e:∀a b:Int,uC true (.int .i64 a) (.int .i64 b)=some (a==b):=fun a b=>by simp[uC]
 have e2:∀a b:Bool,uC false (.bool a) (.bool b)=some (a==b):=fun a b=>by simp[uC]
 simp only[vg,Hg,e,e2];cases (x.k==y.k)<;>cases (x.a==y.a)<;>cases (x.b==y.b)<;>cases (x.c==y.c)<;>cases (x.l==y.l)<;>cases (x.o==y.o)<;>cases (x.s==y.s)<;>rfl
theorem aoe{a b:aU}(h:Hg a b=true):a=b:=by cases a;cases b;unfold Hg at h;simp only[cN,dL] at h;obtain⟨h1,h2,h3,h4,h5,h6,h7⟩:=h;subst h1 h2 h3 h4 h5 h6 h7;rfl
theorem aof(a:aU):Hg a a=true:=by unfold Hg;simp
theorem amz(ms:List aU)(x:aU)(hm:ms.length<=1000000):∃i:Int,((0<=i->x∈ms)/\(i<0->x∉ms))/\aF S 210 [.one (.p (.sl (mP ms))),Hi x] (ri i):=by
 have:∃r,(∃i:Int,((0<=i->x∈ms)/\(i<0->x∉ms))/\r=ri i)/\aF S 210 [.one (.p (.sl (mP ms))),Hi x] r:=by
  refine Ox rfl c210 (iv rfl) ?_;simp only[go_sem,i210];refine cJ (fun k ak aj=>ak 0=.one (.p (.sl (mP ms)))/\ak 3=.one (.aX 13440000000 1 0)/\aj 13440000000=(1,some (.var [.p (.int .i64 x.k),.p (.int .i64 x.a),.p (.int .i64 x.b),.p (.int .i64 x.c),.p (.bool x.l),.p (.bool x.o),.p (.int .i64 x.s)]))/\ak 7=vi ms.length/\ak 8=vi k/\x∉ms.take k) 0 ms.length (bj _) ?_ ?_
  .simp only[go_sem];simp
  rintro k ak aj hk ⟨h0,h3,hB,h7,h8,yn⟩
  by_cases aq:k<ms.length
  .have aL:((k:Int)<(ms.length:Int)):=aa;obtain⟨m,mL⟩:=aM aq;have Jl:=JN mL;have w1:=bN (n:=k) aa;have he:=ajA x m;cases hb:Hg x m with
   |true=>rw[hb] at he;simp only[go_sem,i210_l1,h0,h3,hB,h7,h8,aL,Jl,aU.ps,he];exact⟨aK,_,⟨_,⟨fun _=>(aoe hb)▸aW mL,fun h=>aa⟩,rfl⟩,rfl⟩
   |false=>
    rw[hb] at he;simp only[go_sem,i210_l1,h0,h3,hB,h7,h8,aq,aL,Jl,aU.ps,w1,he];refine⟨aK,fun h=>?_⟩;rw[iu,mL] at h;rcases dZ.1 h with h|h
    .exact yn h
    simp only[Option.toList_some,lK] at h;rw[h,aof] at hb;cases hb
  have:k=ms.length:=aa;subst this;simp only[go_sem,i210_l1,i210_r2,h7,h8,dG];exact⟨_,⟨_,⟨fun h=>absurd h ae,fun _=>by rwa[kE] at yn⟩,rfl⟩,rfl⟩
 obtain⟨_,⟨i,h1,rfl⟩,h⟩:=this;exact⟨i,h1,h⟩
theorem Yw(ms:List aU)(x:aU)(hm:ms.length<=1000000):∃b,((b=true->x∈ms)/\(b=false->x∉ms))/\aF S 173 [.one (.p (.sl (mP ms))),Hi x] (rb b):=by obtain⟨i,hi,pi⟩:=amz ms x hm;refine⟨decide (0<=i),⟨fun h=>hi.1 (l7 h),fun h=>hi.2 (by have:=fA h;omega)⟩,?_⟩;refine aV c173 ?_;simp only[go_sem,i173,s210,dJ pi]
abbrev jY:Nat:=57
abbrev edT:Nat:=3
def okM(k:Int)(av:Nat)(m:aU):Prop:=m.k=k/\m.a=(av:Int)/\m.l=false/\m.o=false/\m.s=0/\FC m
theorem lI2{l:List Int}(h:l.length=2):∃a b,l=[a,b]:=by
 match l,h with
 |[a,b],_=>exact⟨a,b,rfl⟩
theorem lI3{l:List Int}(h:l.length=3):∃a b c,l=[a,b,c]:=by
 match l,h with
 |[a,b,c],_=>exact⟨a,b,c,rfl⟩
def JQ(aj:aw)(v:V)(ao:aw):Prop:=v=.tup []/\ao=aj
theorem TC{Q:dy}{al:Al}{ak:Env}{aj:aw}{os:List bI}{d:Option Nat}{f:Nat}{vs:List V}{P:V->aw->Prop}(ry:(vs.map (iZ aj)).flatten=[])(hh:al=.all\/(S.sites f).all al.fs.contains=true)
  (h:∀qJ,qJ.fs=S.sites f->∃v ao,iw S f vs qJ aj v ao/\P v ao) (hK:∀v ao,P v ao->RN S al os Q (put ak d v) ao):gP S al (.sc f vs) d os Q ak aj:=by
 refine tV (P:=P) ?_ (h _ rfl) hK;rcases hh with rfl|h2
 .rfl
 refine holds_of ?_ h2;show al.fG (vs.map (iZ aj)).flatten=true;rw[ry];rfl
theorem amE{al:Al}{aj:aw}:∃v ao,iw S 240 [.one (.p .nils),vi 0,vi 0,DZ] al aj v ao/\JQ aj v ao:=by refine mV c240 (iv rfl) ?_;have w0:IntKind.i64.wrap 1=1:=ae;have hz:¬((1:Int)<0):=ae;simp only[go_sem,i240];refine kG ?_;simp only[go_sem,i240_l3,w0,hz];first|done|exact⟨rfl,rfl⟩|trace_state
theorem ao6{al:Al}{aj:aw}(f1:al.fs.contains 240=true)(lim:Int):∃v ao,iw S 211 [.one (.p .nils),vi 0,vi 0,vi lim,DZ] al aj v ao/\JQ aj v ao:=by refine mV c211 (iv rfl) ?_;have w0:IntKind.i64.wrap (0-0)=0:=ae;have kY:((0:Int)<=12):=ae;simp only[go_sem,i211];refine kG ?_;simp only[go_sem,i211_l1,w0,kY,s240];refine TC (by rfl) (.inr (by rw[show S.sites 240=[240] by kernel_rfl];simp only[oG,sP,f1,Ar])) (P:=JQ aj) (fun qJ _=>amE) fun v ao hP=>?_;obtain⟨rfl,h2⟩:=hP;simp only[go_sem];exact⟨rfl,h2⟩
theorem ar5{al:Al}{aj:aw}(f1:(S.sites 211).all al.fs.contains=true):∃v ao,iw S 174 [.one (.p .nils),DZ] al aj v ao/\JQ aj v ao:=by obtain⟨k,pb⟩:=SI 0 aa;have wu:IntKind.u64.wrap ((0:Nat):Int)=((0:Nat):Int):=ae;refine mV c174 (iv rfl) ?_;have sbl:S.shared 171=false:=ah;simp only[go_sem,i174,wu,sbl,Ei pb,s211];refine TC (by rfl) (.inr f1) (P:=JQ aj) (fun qJ h2=>ao6 (by rw[h2];kernel_rfl) k) fun v ao hP=>?_;obtain⟨rfl,h2⟩:=hP;simp only[go_sem];exact⟨rfl,h2⟩
def jK(kk:Int)(av:Nat)(D:List Nat)(ms:List aU):Prop:=
 (kk≠8->∀b:Nat,av<b->D.length=2->(∃d∈D,d/2=av)->(∃d∈D,d/2=b)->(⟨kk,av,b,0,false,false,0⟩:aU)∈ms)/\
 (kk=8->∀b c:Nat,av<b->b<c->D.length=3->(∃d∈D,d/2=av)->(∃d∈D,d/2=b)->(∃d∈D,d/2=c)->(⟨kk,av,b,c,false,false,0⟩:aU)∈ms)
theorem jK.app(h:jK kk av D ms)(x:List aU):jK kk av D (ms++x):=
 ⟨fun a b c d e f=>FR _ (h.1 a b c d e f),fun a b c d e f g i j=>FR _ (h.2 a b c d e f g i j)⟩
theorem atc(h:D.length=2){x y:Nat}(hx:x∈D)(hy:y∈D)(aI:x≠y):∀z∈D,z=x\/z=y:=by
 match D,h with
 |[a,b],_=>intro z hz;simp only[cI,iM,or_false] at hx hy hz;omega
theorem asQ(h:D.length=3){x y w:Nat}(hx:x∈D)(hy:y∈D)(hw:w∈D)(n1:x≠y)(n2:x≠w)(n3:y≠w):∀z∈D,z=x\/z=y\/z=w:=by
 match D,h with
 |[a,b,c],_=>intro z hz;simp only[cI,iM,or_false] at hx hy hw hz;omega
theorem jK.low{d:Nat}(hd:d∈D)(h:d/2<av):jK kk av D ms:=by
 constructor
 .rintro _ b dX h2 ⟨x,hx,ex⟩ ⟨y,hy,ey⟩
  have:=atc h2 hx hy aa d hd;omega
 rintro _ b c dX Co h3 ⟨x,hx,ex⟩ ⟨y,hy,ey⟩ ⟨w,hw,ew⟩
 have:=asQ h3 hx hy hw aa aa aa d hd;omega
theorem jK.far(h:D.length=1\/3<D.length):jK kk av D ms:=
 ⟨fun _ b _ h2=>aa,fun _ b c _ _ h3=>aa⟩
theorem jK.two8(h:D.length=2)(h8:kk=8):jK kk av D ms:=
 ⟨fun h=>absurd h8 h,fun _ b c _ _ h3=>aa⟩
theorem jK.three(h:D.length=3)(h8:kk≠8):jK kk av D ms:=
 ⟨fun _ b _ h2=>aa,fun h=>absurd h h8⟩
theorem jK.two{y0 y1:Int}(h:D.length=2)(hp:[y0,y1].Perm (D.map fun d=>((d/2:Nat):Int)))(hs:u7 sv [y0,y1] 0 2)(h8:kk≠8)(hm:(⟨kk,av,y1,0,false,false,0⟩:aU)∈ms):jK kk av D ms:=by
 refine⟨?_,fun h=>absurd h h8⟩;rintro _ b dX _ ⟨x,hx,ex⟩ ⟨y,hy,ey⟩
 have h1:((av:Nat):Int)∈[y0,y1]:=hp.mem_iff.2 (dI.2 ⟨x,hx,by rw[ex]⟩);have h2:((b:Nat):Int)∈[y0,y1]:=hp.mem_iff.2 (dI.2 ⟨y,hy,by rw[ey]⟩);have h3:=hs 0 1 y0 y1 aa aa aa rfl rfl;simp only[decide_eq_false_iff_not] at h3;simp only[cI,iM,or_false] at h1 h2;have:y1=(b:Int):=aa;rw[<- this];exact hm
theorem jK.thr{y0 y1 y2:Int}(h:D.length=3)(hp:[y0,y1,y2].Perm (D.map fun d=>((d/2:Nat):Int)))(hs:u7 sv [y0,y1,y2] 0 3)(hm:(⟨kk,av,y1,y2,false,false,0⟩:aU)∈ms):jK kk av D ms:=by
 refine⟨fun _ b _ h2=>aa,?_⟩;rintro _ b c dX Co _ ⟨x,hx,ex⟩ ⟨y,hy,ey⟩ ⟨w,hw,ew⟩
 have h1:((av:Nat):Int)∈[y0,y1,y2]:=hp.mem_iff.2 (dI.2 ⟨x,hx,by rw[ex]⟩);have h2:((b:Nat):Int)∈[y0,y1,y2]:=hp.mem_iff.2 (dI.2 ⟨y,hy,by rw[ey]⟩);have h4:((c:Nat):Int)∈[y0,y1,y2]:=hp.mem_iff.2 (dI.2 ⟨w,hw,by rw[ew]⟩);have h3:=hs 0 1 y0 y1 aa aa aa rfl rfl;have h5:=hs 1 2 y1 y2 aa aa aa rfl rfl;simp only[decide_eq_false_iff_not] at h3 h5;simp only[cI,iM,or_false] at h1 h2 h4;have k1:y1=(b:Int):=aa;have k2:y2=(c:Int):=aa;rw[<- k1,<- k2];exact hm
theorem ac7{l:List aU}{x:aU}(h:l.Nodup)(hx:x∉l):(l++[x]).Nodup:=by rw[DH];refine⟨h,af,fun a ha b hb e=>?_⟩;rw[lK.1 hb] at e;exact hx (e▸ha)
theorem asj{ws:List aU}{k:Int}(au:∀m∈ws,okM k av m)(hn:ws.Nodup)(hs:u7 pL ws 0 ws.length):ws.Pairwise fun x y=>pL x y=true:=by
 rw[KT];intro i j hi hj eU;have h1:=hs i j ws[i] ws[j] (bj _) eU hj (oJ hi) (oJ hj);have h2:ws[i]≠ws[j]:=fun e=>by have:=(List.getElem_inj hn).1 e;omega
 have k1:=au _ (WR hi);have k2:=au _ (WR hj);generalize ws[i]=x at*;generalize ws[j]=y at*;cases hb:pL x y with
 |true=>rfl
 |false=>exfalso;apply h2;obtain⟨a1,a2,a3,a4,a5,_⟩:=k1;obtain⟨c1,c2,c3,c4,c5,_⟩:=k2;cases x;cases y;unfold pL at h1 hb;simp only[Od,Bool.and_eq_false_iff,decide_eq_false_iff_not] at h1 hb a1 a2 a3 a4 a5 c1 c2 c3 c4 c5;simp only[aU.mk.injEq];refine⟨aa,aa,aa,aa,by rw[a3,c3],by rw[a4,c4],aa⟩
theorem aiI{ls:List Let}(g:bQ F ls)(kk:Int)(ha:av<ls.length):∃ms:List aU,(ms.length<=2/\(∀m∈ms,okM kk av m)/\(∀j,j<2->jK kk av (kr F ls (2*av+j)).bl ms)/\ms.Pairwise fun x y=>pL x y=true)/\aF S 143 [.one (.p (fO F ls)),vi kk,vi av] (.one (aO jY 7 (mP ms))):=by
 have hlen:=g.len;have hN:nD ls<=1600:=by have:=sX ls ls.length;unfold nD;have:(aB ls).length<=ls.length:=sX ls ls.length;omega
 suffices h:∃r,(∃ms:List aU,(ms.length<=2/\(∀m∈ms,okM kk av m)/\(∀j,j<2->jK kk av (kr F ls (2*av+j)).bl ms)/\ms.Pairwise fun x y=>pL x y=true)/\r=.one (aO jY 7 (mP ms)))/\aF S 143 [.one (.p (fO F ls)),vi kk,vi av] r by obtain⟨r,⟨ms,h1,rfl⟩,h2⟩:=h;exact⟨ms,h1,h2⟩
 refine Ox rfl c143 (iv rfl) ?_;simp only[go_sem,i143];refine cJ (fun k ak aj=>ak 0=.one (.p (fO F ls))/\ak 1=vi kk/\ak 2=vi av/\ak 14=vi k/\ ∃ms c,ms.length<=k/\(∀m∈ms,okM kk av m)/\(∀j,j<k->jK kk av (kr F ls (2*av+j)).bl ms)/\ms.Nodup/\ak 7=.one c/\grown 9153280192 jY 7 (mP ms) (.one c) aj) 0 2 (bj _) ?_ ?_
 .simp only[go_sem];exact⟨rfl,[],.p .nils,bJ _,fun m h=>(by cases h),fun j h=>absurd h (mT _),vU,rfl,grown.nil⟩
 rintro k ak aj hk ⟨h0,h1,h2,I1,ms,c,r8,au,hsd,fj,h7,gm⟩
 by_cases aq:k<2
 .have aL:((k:Int)<2):=aa;obtain⟨j,Ji,nV,EG⟩:=Tk g (d:=2*av+k) aa;have Uc:=aW nV;have CA:=iF Ji;have Gz:=Pa nV;have m2:=sL (a:=av) aa;have m3:=wrap_add (a:=2*av) (b:=k) aa;have w1:=bN (n:=k) aa;have Cr:2*av+k<(ou F ls).length:=by rw[UX];omega
  have hdd:=Tl Uc;have ald:=O9 g.ok Uc;obtain⟨_,_,hdm,_⟩:=O7 (F:=F) (ls:=ls) (d:=2*av+k) aa;have nxt_:∀Nd:List aU,jK kk av (kr F ls (2*av+k)).bl (ms++Nd)->∀j,j<k+1->jK kk av (kr F ls (2*av+j)).bl (ms++Nd):=fun Nd h j hj=>by
   by_cases e:j=k
   .rw[e];exact h
   exact(hsd j aa).app Nd
  have Hl:jK kk av (kr F ls (2*av+k)).bl ms->∀j,j<k+1->jK kk av (kr F ls (2*av+j)).bl ms:=fun h=>by have:=nxt_ [] (by rw[mR];exact h);rwa[mR] at this
  generalize hfe:kr F ls (2*av+k)=f at*;simp only[go_sem,i143_l4,h0,h2,I1,aL,m2,m3,CA,Gz,Fc.ps];refine⟨aK,?_⟩;obtain⟨g9,hg9⟩:∃g9,(aj 9152321024).fst+1=g9:=⟨_,rfl⟩;rw[hg9];refine cJ (fun q dp ba=>dp 0=.one (.p (fO F ls))/\dp 1=vi kk/\dp 2=vi av/\dp 14=vi k/\dp 7=.one c/\grown 9153280192 jY 7 (mP ms) (.one c) ba/\dp 9=.one (.aX 9152321024 g9 0)/\ba 9152321024=(g9,some (.var (f.ps.map .p)))/\dp 34=.one (.p (.sl (nP f.bl)))/\dp 35=vi f.bl.length/\dp 36=vi q/\(0<q->f.bl.length<=3)/\ ∃zs ce,zs.length=q/\zs=(f.bl.take q).map (fun d=>((d/2:Nat):Int))/\(∀z∈zs,0<=z/\z<=1000000)/\dp 10=.one ce/\grown 9152704256 edT 1 (iP zs) (.one ce) ba) 0 f.bl.length (bj _) ?_ ?_
  .have gm':grown 9153280192 jY 7 (mP ms) (.one c) (dj (dj aj 9152321024 (g9,some (Ob.var [C.p (PV.bool false),C.p PV.nils,C.p PV.nils,C.p PV.nils,C.p (PV.bool false)]))) 9152321024 (g9,some (Ob.var (f.ps.map .p)))):=gm.of_eq ((aR ae).trans (aR ae));simp only[go_sem,h0,h1,h2,h7,I1,Fc.ps] at gm' ⊢;refine⟨gm',rfl,fun h=>h.elim,[],.p .nils,rfl,rfl,fun z h=>(by cases h),rfl,grown.nil⟩
  rintro q dp ba hq ⟨p0,p1,p2,uT,p7,xO,p9,b9,Fq,Nq,Nr,h3,zs,ce,pJ,Jy,hzb,Dg,gz⟩
  simp only[Fc.ps,fy,pV] at b9;by_cases ub:q<f.bl.length
  .have Ur:((q:Int)<(f.bl.length:Int)):=aa;obtain⟨d,hd⟩:=aM ub;have mq:=iF hd;have hdb:=hdd d (aW hd);have wq:=wrap_small (n:=d/2) aa;have w2:=bN (n:=q) aa;by_cases c1:d/2<av
   .have c1':(((d/2:Nat):Int)<(av:Int)):=aa;simp only[go_sem,i143_l1,i143_r3,p0,p1,p2,uT,p7,p9,Dg,Fq,Nq,Nr,b9,ub,Ur,mq,dS,fp,wq,c1',w1,aq];exact⟨ms,c,aa,au,Hl (.low (aW hd) c1),fj,rfl,xO⟩
   have c1':¬(((d/2:Nat):Int)<(av:Int)):=aa;by_cases c2:3<f.bl.length
   .have c2':((3:Int)<(f.bl.length:Int)):=aa;simp only[go_sem,i143_l1,i143_r3,p0,p1,p2,uT,p7,p9,Dg,Fq,Nq,Nr,b9,ub,Ur,mq,dS,fp,wq,c1',c2',w1,aq];exact⟨ms,c,aa,au,Hl (.far (.inr c2)),fj,rfl,xO⟩
   have c2':¬((3:Int)<(f.bl.length:Int)):=aa;simp only[go_sem,i143_l1,p2,p9,Dg,Fq,Nq,Nr,b9,Ur,mq,dS,fp,wq,c1',c2'];refine ni (xs:=[[.int .i64 ((d/2:Nat):Int)]]) (gz.of_eq (aR ae)) (by simp only[ed,aN,if_true];rfl) (.inl rfl) (by simp only[pK,cS,eE];omega) fun c2 fN gz2 hb=>?_;have q9:=hb 9152321024 ae ae;have zk:=xO.of_eq ((hb 9153280192 ae ae).trans (aR ae));simp only[go_sem,b9] at q9;simp only[go_sem,p0,p1,p2,uT,p7,p9,Fq,Nq,Nr,q9,w2,Fc.ps];refine⟨ub,zk,fun _=>aa,zs++[((d/2:Nat):Int)],c2,by simp;omega,by rw[Jy,iu,hd];simp,fun z hz=>?_,rfl,?_⟩
   .rcases dZ.1 hz with h|h
    .exact hzb z h
    have:=lK.1 h;omega
   rw[show iP (zs++[((d/2:Nat):Int)])=iP zs++[[.int .i64 ((d/2:Nat):Int)]] by simp[iP]];exact gz2
  have:q=f.bl.length:=aa;subst this;have alg:0<f.bl.length:=KM hdm;have qf:=h3 alg;rcases gz with ⟨e,_⟩|⟨_,gg,e,bz⟩
  .have hz0:(iP zs).length=0:=by rw[e];rfl
   rw[pK] at hz0;omega
  cases e;have sS:S.shared 172=true:=ah;simp only[go_sem,i143_l1,i143_r2,Dg,Nq,Nr,dG,sS,pK];refine AX bz (by rfl) (.inl rfl) (P:=FD sv 9152704256 gg edT zs ba) (fun qJ h1 h2=>Wd h1 (by rw[h2];kernel_rfl) aa bz) fun v fN hP=>?_;obtain⟨rfl,⟨ws,bw,pw,sw⟩,kw⟩:=hP;have zk:=xO.of_eq (kw 9153280192 ae);have iW:=pw.length_eq;have nX:ws.Perm (f.bl.map fun d=>((d/2:Nat):Int)):=by rw[Jy,kE] at pw;exact pw
  have hwb:∀z∈ws,0<=z/\z<=1000000:=fun z hz=>hzb z (pw.mem_iff.1 hz);rw[pJ] at iW;clear pw hzb b9 bz;clear h3 ub hdd ald Uc hdm hq Jy;generalize ua:f.bl.length=n at*;have s120:S.shared 173=false:=ah;have Af:(((2:Nat):Int)==2)=true:=ae;have q12:(((1:Nat):Int)==2)=false:=ae;have q32:(((3:Nat):Int)==2)=false:=ae;have q13:(((1:Nat):Int)==3)=false:=ae;have uh:(((2:Nat):Int)==3)=false:=ae;have q33:(((3:Nat):Int)==3)=true:=ae;rcases(by omega:n=1\/n=2\/n=3) with rfl|rfl|rfl
  .simp only[go_sem,i143_r3,p0,p1,p2,uT,p7,Dg,pJ,q12,q13,w1,aq];exact⟨ms,c,aa,au,Hl (.far (.inl ua)),fj,rfl,zk.of_eq ((aR ae).trans (aR ae))⟩
  .obtain⟨y0,y1,rfl⟩:=lI2 iW;by_cases h8:kk=8
   .have e8:(kk !=8)=false:=by rw[h8];rfl
    simp only[go_sem,i143_r3,p0,p1,p2,uT,p7,Dg,pJ,Af,uh,e8,w1,aq];exact⟨ms,c,aa,au,Hl (.two8 ua h8),fj,rfl,zk.of_eq ((aR ae).trans (aR ae))⟩
   have e8:(kk !=8)=true:=by simpa using h8
   simp only[go_sem,i143_r3,p1,p2,p7,Dg,pJ,Af,e8,bw];obtain⟨bb,uG,pcv⟩:=Yw ms ⟨kk,av,y1,0,false,false,0⟩ aa;have VB:aF S 173 [.one (.p (.sl (mP ms))),.agg [.p (.int .i64 kk),.p (.int .i64 av),.p (.int .i64 y1),.p (.int .i64 0),.p (.bool false),.p (.bool false),.p (.int .i64 0)]] (rb bb):=pcv;obtain⟨r,snB,hr⟩:=zk.Aj;simp only[go_sem,s120,snB,bh VB];cases bb with
   |true=>simp only[go_sem,p0,p1,p2,uT,p7,w1,aq];exact⟨ms,c,aa,au,Hl (.two ua nX sw h8 (uG.1 rfl)),fj,rfl,zk.of_eq (by simp only[aN,Nat.reduceEqDiff,if_false])⟩
   |false=>
    simp only[go_sem,p7];refine ni (xs:=[aU.ps ⟨kk,av,y1,0,false,false,0⟩]) (zk.of_eq (by simp only[aN,Nat.reduceEqDiff,if_false])) (by simp only[ed,aN,if_true];rfl) (.inl rfl) (by simp only[mN,cS,eE];omega) fun c2 vc Cg eT=>?_;simp only[go_sem,p0,p1,p2,uT,w1,aq];refine⟨ms++[⟨kk,av,y1,0,false,false,0⟩],c2,by simp;omega,fun m hm=>?_,nxt_ _ (.two ua nX sw h8 af),ac7 fj (uG.2 rfl),rfl,by rw[show mP (ms++[⟨kk,av,y1,0,false,false,0⟩])=mP ms++[aU.ps ⟨kk,av,y1,0,false,false,0⟩] by simp[mP]];exact Cg⟩;rcases dZ.1 hm with h|h
    .exact au m h
    have:=lK.1 h;subst this;exact⟨rfl,rfl,rfl,rfl,rfl,hwb y1 af,af⟩
  obtain⟨y0,y1,y2,rfl⟩:=lI3 iW;by_cases h8:kk=8
  .have e8:(kk==8)=true:=by rw[h8];rfl
   simp only[go_sem,i143_r3,p1,p2,p7,Dg,pJ,q32,q33,e8,bw];obtain⟨bb,uG,pcv⟩:=Yw ms ⟨kk,av,y1,y2,false,false,0⟩ aa;have VB:aF S 173 [.one (.p (.sl (mP ms))),.agg [.p (.int .i64 kk),.p (.int .i64 av),.p (.int .i64 y1),.p (.int .i64 y2),.p (.bool false),.p (.bool false),.p (.int .i64 0)]] (rb bb):=pcv;obtain⟨r,snB,hr⟩:=zk.Aj;refine⟨aK,?_⟩;simp only[go_sem,s120,snB,bh VB];cases bb with
   |true=>simp only[go_sem,p0,p1,p2,uT,p7,w1,aq];exact⟨ms,c,aa,au,Hl (.thr ua nX sw (uG.1 rfl)),fj,rfl,zk.of_eq (by simp only[aN,Nat.reduceEqDiff,if_false])⟩
   |false=>
    simp only[go_sem,p7];refine ni (xs:=[aU.ps ⟨kk,av,y1,y2,false,false,0⟩]) (zk.of_eq (by simp only[aN,Nat.reduceEqDiff,if_false])) (by simp only[ed,aN,if_true];rfl) (.inl rfl) (by simp only[mN,cS,eE];omega) fun c2 vc Cg eT=>?_;simp only[go_sem,p0,p1,p2,uT,w1,aq];refine⟨ms++[⟨kk,av,y1,y2,false,false,0⟩],c2,by simp;omega,fun m hm=>?_,nxt_ _ (.thr ua nX sw af),ac7 fj (uG.2 rfl),rfl,by rw[show mP (ms++[⟨kk,av,y1,y2,false,false,0⟩])=mP ms++[aU.ps ⟨kk,av,y1,y2,false,false,0⟩] by simp[mP]];exact Cg⟩;rcases dZ.1 hm with h|h
    .exact au m h
    have:=lK.1 h;subst this;exact⟨rfl,rfl,rfl,rfl,rfl,hwb y1 af,hwb y2 af⟩
  have e8:(kk==8)=false:=by simpa using h8
  simp only[go_sem,i143_r3,p0,p1,p2,uT,p7,Dg,pJ,q32,q33,e8,w1,aq];exact⟨ms,c,aa,au,Hl (.three ua h8),fj,rfl,zk.of_eq ((aR ae).trans (aR ae))⟩
 have:k=2:=aa;subst this;have jU:¬(((2:Nat):Int)<2):=ae;have sS:S.shared 174=true:=ah;simp only[go_sem,i143_l4,i143_r5,h7,I1,jU,sS];rcases gm with ⟨e,e2⟩|⟨aI,gg,e2,bm⟩
 .cases e2;have:ms=[]:=by simpa [mP] using e
  subst this;refine TC (by rfl) (.inl rfl) (P:=JQ aj) (fun qJ h2=>ar5 (by rw[h2];kernel_rfl)) fun v fN hP=>?_;obtain⟨rfl,rfl⟩:=hP;simp only[go_sem,h7];exact⟨_,⟨[],⟨af,(fun m h=>by cases h),hsd,List.Pairwise.nil⟩,rfl⟩,rfl⟩
 cases e2;rw[mN] at h7 ⊢;refine AX bm (by rfl) (.inl rfl) (P:=Kl 9153280192 gg jY ms aj) (fun qJ h1 h2=>ar6 h1 (by rw[h2];kernel_rfl) aa (fun m hm=>(au m hm).2.2.2.2.2) bm) fun v fN hP=>?_;obtain⟨rfl,⟨ws,bw,pw,sw⟩,kw⟩:=hP;simp only[go_sem,h7];have iW:=pw.length_eq;refine⟨_,⟨ws,⟨aa,fun m hm=>au m (pw.mem_iff.1 hm),fun j hj=>⟨fun a b c d e f=>pw.mem_iff.2 ((hsd j hj).1 a b c d e f),fun a b c d e f g i j'=>pw.mem_iff.2 ((hsd j hj).2 a b c d e f g i j')⟩,asj (fun m hm=>au m (pw.mem_iff.1 hm)) (pw.nodup_iff.2 fj) sw⟩,rfl⟩,?_⟩;rw[<- iW,<- mN ws];refine xR (.inr ⟨fun e=>aI ?_,gg,rfl,bw⟩);have h0:(mP ws).length=0:=by rw[e];rfl
 rw[mN,iW] at h0;rw[DG.1 h0];rfl
def Ho(k:Int)(n:Nat)(m:aU):Prop:= ∃a,a<n/\okM k a m
theorem Vq{k:Int}{n a:Nat}(h:∀m∈ms,Ho k n m)(h2:∀m∈ns,okM k a m)(ha:a<n):∀m∈ms++ns,Ho k n m:=fun m hm=>(dZ.1 hm).elim (h m) fun h3=>⟨a,ha,h2 m h3⟩
def CP (F:Nat)(ls:List Let)(kk:Int)(ms:List aU):Prop:=(kk=1\/kk=4->∀a:Nat,a<ls.length->(⟨kk,a,0,0,false,false,0⟩:aU)∈ms)/\(kk=3\/kk=6\/kk=8->∀a,a<ls.length->∀j,j<2->jK kk a (kr F ls (2*a+j)).bl ms)
theorem jK.oO(h:jK kk av D ms)(x:List aU):jK kk av D (x++ms):=
 ⟨fun a b c d e f=>Ol _ (h.1 a b c d e f),fun a b c d e f g i j=>Ol _ (h.2 a b c d e f g i j)⟩
def Da(x y:aU):Prop:=x.a<y.a\/(x.a=y.a/\pL x y=true)
section
variable {F:Nat} {ls:List Let}
theorem aqd{k:Nat}(h:(∀m∈ms,m.a<(k:Int))/\ms.Pairwise Da)(hn:∀m∈ns,m.a=(k:Int))(hp:ns.Pairwise fun x y=>pL x y=true):(∀m∈ms++ns,m.a<((k+1:Nat):Int))/\(ms++ns).Pairwise Da:=by
 refine⟨fun m hm=>?_,R5.2 ⟨h.2,hp.imp_of_mem fun hx hy hl=>.inr ⟨by rw[hn _ hx,hn _ hy],hl⟩,fun x hx y hy=>.inl (by rw[hn y hy];exact h.1 x hx)⟩⟩;rcases dZ.1 hm with h1|h1
 .have:=h.1 m h1;omega
 have:=hn m h1;omega
theorem ah5(g:bQ F ls)(aI:0<ls.length)(tX:kk=3\/kk=6\/kk=8):∃ms:List aU,(ms.length<=2*ls.length/\(∀m∈ms,Ho kk ls.length m)/\CP F ls kk ms/\ms.Pairwise Da)/\aF S 116 [.one (.p (fO F ls)),vi kk] (.one (aO jY 7 (mP ms))):=by
 have hlen:=g.len;have lo:S.lone 7426944256=false:=ah;have cK:(jk (pieces ls)).length=ls.length:=by rw[jk,cH,jJ]
 have js:(((ls.length:Nat):Int)==0)=false:=by rw[tF];omega
 suffices h:∃r,(∃ms:List aU,(ms.length<=2*ls.length/\(∀m∈ms,Ho kk ls.length m)/\CP F ls kk ms/\ms.Pairwise Da)/\r=.one (aO jY 7 (mP ms)))/\aF S 116 [.one (.p (fO F ls)),vi kk] r by obtain⟨r,⟨ms,h1,rfl⟩,h2⟩:=h;exact⟨ms,h1,h2⟩
 have d2:(kk==2)=false:=by rw[tF];omega
 have d5:(kk==5)=false:=by rw[tF];omega
 have d7:(kk==7)=false:=by rw[tF];omega
 refine Ox rfl c116 (iv rfl) ?_;simp only[go_sem,i116,i116_r12,cK,js];refine cJ (fun k ak aj=>ak 0=.one (.p (fO F ls))/\ak 1=vi kk/\ak 41=vi ls.length/\ak 42=vi k/\ ∃ms c,ms.length<=2*k/\(∀m∈ms,Ho kk ls.length m)/\(∀a,a<k->∀j,j<2->jK kk a (kr F ls (2*a+j)).bl ms)/\((∀m∈ms,m.a<(k:Int))/\ms.Pairwise Da)/\ak 5=.one c/\grown 7426944320 jY 7 (mP ms) (.one c) aj) 0 ls.length (bj _) ?_ ?_
 .simp only[go_sem];exact⟨rfl,[],.p .nils,af,fun m h=>(by cases h),fun a h=>absurd h (mT _),⟨fun m h=>(by cases h),List.Pairwise.nil⟩,rfl,grown.nil⟩
 rintro k ak aj hk ⟨h0,h1,Gm,xV,ms,c,r8,au,Gu,kL,h5,gm⟩
 by_cases aq:k<ls.length
 .have aL:((k:Int)<(ls.length:Int)):=aa;have w1:=bN (n:=k) aa;obtain⟨ns,⟨mr,Jo,Jn,uK⟩,pc⟩:=aiI g kk aq;have Up:=aqd kL (fun m hm=>(Jo m hm).2.1) uK;have TW:∀a,a<k+1->∀j,j<2->jK kk a (kr F ls (2*a+j)).bl (ms++ns):=fun a ha j hj=>by
   by_cases e:a=k
   .rw[e];exact(Jn j hj).oO ms
   exact(Gu a aa j hj).app ns
  cases d3:(kk==3) with
  |true=>simp only[go_sem,i116_l10,i116_r9,h0,h1,Gm,xV,h5,aL,d2,d5,d7,d3,s143];refine vj pc lo (.inl rfl) fun cc cn gl cq=>?_;have Cf:=gm.of_eq (cq 7426944320 ae);obtain⟨r,hx,hr⟩:=gl.elems;simp only[go_sem];refine ni (xs:=mP ns) Cf hx gl.eo (by simp only[mN];omega) fun c2 vc Cg eT=>?_;simp only[go_sem,h0,h1,Gm,xV,w1,aq];exact⟨ms++ns,c2,by simp;omega,Vq au Jo aq,TW,Up,rfl,by rw[show mP (ms++ns)=mP ms++mP ns by simp[mP]];exact Cg⟩
  |false=>
   cases d6:(kk==6) with
   |true=>simp only[go_sem,i116_l10,i116_r9,h0,h1,Gm,xV,h5,aL,d2,d5,d7,d3,d6,s143];refine vj pc lo (.inl rfl) fun cc cn gl cq=>?_;have Cf:=gm.of_eq (cq 7426944320 ae);obtain⟨r,hx,hr⟩:=gl.elems;simp only[go_sem];refine ni (xs:=mP ns) Cf hx gl.eo (by simp only[mN];omega) fun c2 vc Cg eT=>?_;simp only[go_sem,h0,h1,Gm,xV,w1,aq];exact⟨ms++ns,c2,by simp;omega,Vq au Jo aq,TW,Up,rfl,by rw[show mP (ms++ns)=mP ms++mP ns by simp[mP]];exact Cg⟩
   |false=>
    have d8:(kk==8)=true:=by
     rcases tX with rfl|rfl|rfl
     .cases d3
     .cases d6
     rfl
    simp only[go_sem,i116_l10,i116_r9,h0,h1,Gm,xV,h5,aL,d2,d5,d7,d3,d6,d8,s143];refine vj pc lo (.inl rfl) fun cc cn gl cq=>?_;have Cf:=gm.of_eq (cq 7426944320 ae);obtain⟨r,hx,hr⟩:=gl.elems;simp only[go_sem];refine ni (xs:=mP ns) Cf hx gl.eo (by simp only[mN];omega) fun c2 vc Cg eT=>?_;simp only[go_sem,h0,h1,Gm,xV,w1,aq];exact⟨ms++ns,c2,by simp;omega,Vq au Jo aq,TW,Up,rfl,by rw[show mP (ms++ns)=mP ms++mP ns by simp[mP]];exact Cg⟩
 have:k=ls.length:=aa;subst this;simp only[go_sem,i116_l10,i116_r11,Gm,xV,h5,dG];exact⟨_,⟨ms,⟨r8,au,⟨fun h=>aa,fun _=>Gu⟩,kL.2⟩,rfl⟩,xR gm⟩
end
abbrev xG:Nat:=24
theorem atT{a:PV}{id g z o l:Nat}:Am [[.p a,.hsl id g z o l]]=none:=rfl
theorem ajn{aj:aw}{s g ty sd td zd:Nat}{x:Int}{cd:C}{D:List (List PV)}(hb:aj s=(g,some (.gU ty 2 [[.p (.int .i64 x),cd]])))(gd:grown sd td zd D (.one cd) aj):
  ∃fr,ed aj (.one (.hsl s g 2 0 1))=some ([[.int .i64 x,.sl D]],[s],fr)/\qK aj fr/\(fr=[]\/fr=[sd]):=by
 obtain⟨r1,n1,a1,q1⟩:=gd.NM;refine⟨r1,?_,a1,q1⟩;simp only[ed,hb];simp[collect,n1,NO,PV.norm]
abbrev wY(k:Int):Prop:=k5 k
def tz(F:Nat)(ls:List Let)(want:List Int)(m:aU):Prop:=m.k∈want/\Ho m.k ls.length m/\ ∃M,oO F ls m.k m.a m.b m.c m.l m.o m.s=mz F M
section
variable {F:Nat} {ls:List Let}
theorem ah7(g:bQ F ls)(aI:0<ls.length)(h:wY kk):∃ms:List aU,(ms.length<=2*ls.length/\(∀m∈ms,Ho kk ls.length m)/\CP F ls kk ms/\ms.Pairwise Da)/\aF S 116 [.one (.p (fO F ls)),vi kk] (.one (aO jY 7 (mP ms))):=by exact ah5 g aI (by unfold wY k5 at h;omega)
def uP(x y:aU):Prop:=x.k<y.k\/(x.k=y.k/\Da x y)
def CS (F:Nat)(ls:List Let)(want:List Int)(n:Int)(ms:List aU):Prop:=∀kk∈want,1<=kk->kk<=n->∃ns,CP F ls kk ns/\ ∀m∈ns,(∃M,oO F ls m.k m.a m.b m.c m.l m.o m.s=mz F M)->m∈ms
theorem CS.next{ls:List Let}{want:List Int}{n:Int}(h:CS F ls want n ms)(h2:n+1∈want->∃ns,CP F ls (n+1) ns/\ ∀m∈ns,(∃M,oO F ls m.k m.a m.b m.c m.l m.o m.s=mz F M)->m∈ms):CS F ls want (n+1) ms:=fun kk hk h1 h3=>by
 by_cases e:kk=n+1
 .subst e;exact h2 hk
 exact h kk hk h1 aa
theorem CS.app{ls:List Let}{want:List Int}{n:Int}(h:CS F ls want n ms)(m:aU):CS F ls want n (ms++[m]):=fun kk hk h1 h3=>by obtain⟨ns,a,b⟩:=h kk hk h1 h3;exact⟨ns,a,fun m hm hM=>FR _ (b m hm hM)⟩
theorem aqG{L:List Let}{e:Int}(he:e≠0):mz F L≠sH e:=fun h=>by unfold mz sH at h;simp only[RV.tup.injEq,As,RV.one.injEq,RC.p.injEq,PV.int.injEq,and_true,true_and] at h;exact he h.2.symm
theorem adT{k j:Nat}(h:(∀m∈ms,m.k<=(k:Int)\/(m.k=((k+1:Nat):Int)/\m∈ns.take j))/\ms.Pairwise uP):(∀m∈ms,m.k<=(k:Int)\/(m.k=((k+1:Nat):Int)/\m∈ns.take (j+1)))/\ms.Pairwise uP:=
 ⟨fun m hm=>(h.1 m hm).imp_right fun h2=>⟨h2.1,by rw[iu];exact FR _ h2.2⟩,h.2⟩
theorem apa{k j:Nat}{m:aU}(h:(∀m∈ms,m.k<=(k:Int)\/(m.k=((k+1:Nat):Int)/\m∈ns.take j))/\ms.Pairwise uP)(hp:ns.Pairwise Da)(hk:m.k=((k+1:Nat):Int))(hm:ns[j]?=some m):(∀x∈ms++[m],x.k<=(k:Int)\/(x.k=((k+1:Nat):Int)/\x∈ns.take (j+1)))/\(ms++[m]).Pairwise uP:=by
 refine⟨fun x hx=>?_,R5.2 ⟨h.2,List.pairwise_singleton _ _,fun x hx y hy=>?_⟩⟩
 .rcases dZ.1 hx with h1|h1
  .exact(adT h).1 x h1
  rw[lK.1 h1];refine .inr ⟨hk,?_⟩;rw[iu,hm];exact Ol _ af
 rw[lK.1 hy];rcases h.1 x hx with h1|⟨h1,h2⟩
 .exact .inl aa
 refine .inr ⟨aa,?_⟩;obtain⟨i,hi⟩:=jd h2;rw[lI] at hi;split at hi
 .rename_i eU;obtain⟨a1,a2⟩:=bg.1 hi;obtain⟨c1,c2⟩:=bg.1 hm;have:=KT.1 hp i j a1 c1 eU;rw[a2,c2] at this;exact this
 cases hi
theorem ae6(g:bQ F ls)(aI:0<ls.length)(want:List Int)(iW:want.length<=10)(hw:∀k∈want,wY k):∃ms cs,(ms.length<=8000/\(∀m∈ms,tz F ls want m)/\CS F ls want 10 ms/\ms.Pairwise uP)/\aF S 77 [.one (.p (fO F ls)),.one (.p (.sl (iP want)))] (.tup [.one (aO jY 7 (mP ms)),.one (aO xG 2 cs)]):=by
 have hlen:=g.len;have iD:S.lone 4928448128=false:=ah;have kN:S.lone 4928640128=false:=ah
 suffices h:∃r,(∃ms cs,(ms.length<=8000/\(∀m∈ms,tz F ls want m)/\CS F ls want 10 ms/\ms.Pairwise uP)/\r=.tup [.one (aO jY 7 (mP ms)),.one (aO xG 2 cs)])/\aF S 77 [.one (.p (fO F ls)),.one (.p (.sl (iP want)))] r by obtain⟨r,⟨ms,cs,h1,rfl⟩,h2⟩:=h;exact⟨ms,cs,h1,h2⟩
 refine Ox rfl c77 (iv rfl) ?_;simp only[go_sem,i77];refine cJ (fun k ak aj=>ak 0=.one (.p (fO F ls))/\ak 1=.one (.p (.sl (iP want)))/\ak 8=vi ((k+1:Nat):Int)/\ ∃ms cs c d,ms.length<=800*k/\cs.length<=800*k/\(∀m∈ms,tz F ls want m)/\CS F ls want ((k:Nat):Int) ms/\((∀m∈ms,m.k<=(k:Int))/\ms.Pairwise uP)/\ak 6=.one c/\ak 7=.one d/\grown 4928768192 jY 7 (mP ms) (.one c) aj/\grown 4928768448 xG 2 cs (.one d) aj) 0 10 (bj _) ?_ ?_
 .simp only[go_sem];exact⟨rfl,[],[],.p .nils,.p .nils,af,af,fun m h=>(by cases h),fun kk _ h1 h2=>absurd h2 aa,⟨fun m h=>(by cases h),List.Pairwise.nil⟩,rfl,rfl,grown.nil,grown.nil⟩
 rintro k ak aj hk ⟨e0,e1,e8,ms,cs,c,d,r8,cX,au,zq,vv,e6,e7,gm,gc⟩
 by_cases aq:k<10
 .have aL:((k+1:Nat):Int)<=10:=aa;have w1:=bN (n:=k+1) aa;have ph:=Yv want ((k+1:Nat):Int) aa;cases hc:want.contains ((k+1:Nat):Int) with
  |false=>rw[hc] at ph;simp only[go_sem,i77_l3,i77_r2,e0,e1,e6,e7,e8,aL,s115,bh ph,w1];exact⟨aq,ms,cs,c,d,aa,aa,au,zq.next fun h=>absurd (FP.2 h) (by rw[show((k:Nat):Int)+1=((k+1:Nat):Int) by omega,hc];decide),⟨fun m hm=>by have:=vv.1 m hm;omega,vv.2⟩,rfl,rfl,gm,gc⟩
  |true=>
   have qn:((k+1:Nat):Int)∈want:=by simpa using hc
   obtain⟨ns,⟨mr,Jo,Gu,uK⟩,pc⟩:=ah7 g aI (hw _ qn);rw[hc] at ph;simp only[go_sem,i77_l3,e0,e1,e8,aL,s115,bh ph,s116];refine vj pc iD (.inl rfl) fun cc cn gl cq=>?_;have Cf:=gm.of_eq (cq 4928768192 ae);have gc1:=gc.of_eq (cq 4928768448 ae);rcases gl with ⟨e,e2⟩|⟨_,gg,e,vl⟩
   .cases e2;simp only[go_sem];refine kG ?_;simp only[go_sem,i77_l1,i77_r2,e0,e1,e6,e7,e8,zz,w1];exact⟨aq,ms,cs,c,d,aa,aa,au,zq.next fun _=>⟨ns,Gu,fun m hm=>by rw[show ns=[] by simpa [mP] using e] at hm;cases hm⟩,⟨fun m hm=>by have:=vv.1 m hm;omega,vv.2⟩,rfl,rfl,Cf,gc1⟩
   cases e;rw[mN];simp only[go_sem];refine cJ (fun j ak aj=>ak 0=.one (.p (fO F ls))/\ak 1=.one (.p (.sl (iP want)))/\ak 8=vi ((k+1:Nat):Int)/\ak 23=.one (.hsl 4928448128 gg 7 0 ns.length)/\ak 24=vi ns.length/\ak 25=vi j/\aj 4928448128=(gg,some (.arr jY 7 (mP ns)))/\ ∃ms cs c d,ms.length<=800*k+j/\cs.length<=800*k+j/\(∀m∈ms,tz F ls want m)/\CS F ls want ((k:Nat):Int) ms/\(∀i,i<j->∀m,ns[i]?=some m->(∃M,oO F ls m.k m.a m.b m.c m.l m.o m.s=mz F M)->m∈ms)/\((∀m∈ms,m.k<=(k:Int)\/(m.k=((k+1:Nat):Int)/\m∈ns.take j))/\ms.Pairwise uP)/\ak 6=.one c/\ak 7=.one d/\grown 4928768192 jY 7 (mP ms) (.one c) aj/\grown 4928768448 xG 2 cs (.one d) aj) 0 ns.length (bj _) ?_ ?_
   .simp only[go_sem,e0,e1,e6,e7,e8];exact⟨rfl,vl,ms,cs,c,d,aa,aa,au,zq,fun i h=>absurd h (mT _),⟨fun m hm=>.inl (vv.1 m hm),vv.2⟩,rfl,rfl,Cf,gc1⟩
   clear gm gc Cf gc1 au r8 cX vl cq zq vv e0 e1 e6 e7 e8;rintro j ak aj hj ⟨q0,q1,q8,uh,qE,Bm,bL,ms,cs,c,d,r8,cX,au,zq,iT,vv,q6,q7,gm,gc⟩
   by_cases wP:j<ns.length
   .have PE:((j:Int)<(ns.length:Int)):=aa;have w2:=bN (n:=j) aa;obtain⟨m,mL⟩:=aM wP;have j6:=JN mL;have A7:=Jo m (aW mL);have hkm:m.k=((k+1:Nat):Int):=A7.choose_spec.2.1;have Ue:(mP ns).length=ns.length:=mN ns;have Mt:k5 m.k:=by rw[hkm];exact hw _ qn
    have pd:=do5 g Mt m.a m.b m.c m.l m.o m.s;rcases Sv g Mt m.a m.b m.c m.l m.o m.s with ⟨e,he,ha⟩|⟨M,ha,_⟩
    .rw[ha] at pd;have Gw:(e==0)=false:=by simpa using he
     simp only[go_sem,i77_l1,q0,q1,q6,q7,q8,uh,qE,Bm,bL,wP,PE,j6,aU.ps,s78,cU pd am9,Gw,w2];exact⟨ms,cs,c,d,aa,aa,au,zq,fun i hi m' tn hM=>by
      by_cases ei:i=j
      .rw[ei,mL] at tn;cases tn;obtain⟨M,hM⟩:=hM;rw[ha] at hM;exact absurd hM.symm (aqG he)
      exact iT i aa m' tn hM,adT vv,rfl,rfl,gm.of_eq (by simp only[aN,Nat.reduceEqDiff,if_false]),gc.of_eq (by simp only[aN,Nat.reduceEqDiff,if_false])⟩
    have CI:tz F ls want m:=⟨by rw[hkm];exact qn,by rw[hkm];exact A7,M,ha⟩;rw[ha] at pd;simp only[go_sem,i77_l1,q0,uh,qE,Bm,bL,wP,PE,j6,aU.ps,s78];refine aaf pd kN fun cx ba gx aT=>?_;have b10:=aT 4928576128 ae;simp only[go_sem] at b10;have bL2:=(aT 4928448128 ae).trans ((aR ae).trans ((aR ae).trans bL));have xO:=gm.of_eq ((aT 4928768192 ae).trans (by simp only[aN,Nat.reduceEqDiff,if_false]));have Ej:=gc.of_eq ((aT 4928768448 ae).trans (by simp only[aN,Nat.reduceEqDiff,if_false]));have Jm:∀m'∈ms++[m],tz F ls want m':=fun m' h=>(dZ.1 h).elim (au m') fun h=>(lK.1 h)▸CI
    have aaN:∀i,i<j+1->∀m',ns[i]?=some m'->(∃M,oO F ls m'.k m'.a m'.b m'.c m'.l m'.o m'.s=mz F M)->m'∈ms++[m]:=fun i hi m' tn hM=>by
     by_cases ei:i=j
     .rw[ei,mL] at tn;cases tn;simp
     exact FR _ (iT i aa m' tn hM)
    have aaE:=zq.app m;have aaZ:=apa vv uK hkm mL;have tZ:mP (ms++[m])=mP ms++[aU.ps m]:=by simp[mP]
    rcases gx with ⟨eM,e2⟩|⟨alK,g2,e2,hbx⟩
    .cases e2;simp only[go_sem,b10,q6];refine mZ (site:=4928768192) (id:=4928768192) (bytes:=48) (xs:=[aU.ps m]) (rd:=[4928768128]) (xO.of_eq (by simp only[aN,Nat.reduceEqDiff,if_false])) (by simp[ed,aN,aU.ps]) (.inl rfl) (by simp only[mN,cS,eE];omega) fun c' fN r1 u1 jr ef ig=>?_;have Ld:=ef 4928640384 ae ae;simp only[go_sem] at Ld;simp only[go_sem,Ld,q7];have gc3:=Ej.of_eq ((ef 4928768448 ae ae).trans (by simp only[aN,Nat.reduceEqDiff,if_false]:_=ba 4928768448));refine mZ (site:=4928768448) (id:=4928768448) (bytes:=32) (xs:=[[.int .i64 F,.sl []]]) (rd:=[4928768384]) (gc3.of_eq (aR ae)) (by simp[ed,aN]) (.inl rfl) (by simp only[cS,eE];omega) fun d' vc r2 u2 hd1 eT r9=>?_
     have Lf:=(eT 4928448128 ae ae).trans ((aR ae).trans (ef 4928448128 ae ae));simp only[aN,Nat.reduceEqDiff,if_false] at Lf;have bL5:=Lf.trans bL2;simp only[go_sem,q0,q1,q6,q7,q8,uh,qE,Bm,bL5,w2,wP];refine⟨?_,ms++[m],_,c',d',by simp;omega,by simp;omega,Jm,aaE,aaN,aaZ,rfl,rfl,?_,hd1⟩
     .rcases ig with ⟨rfl,rfl⟩|⟨rfl,rfl⟩|⟨rfl,rfl⟩<;>rcases r9 with ⟨rfl,rfl⟩|⟨rfl,rfl⟩|⟨rfl,rfl⟩<;>kernel_rfl
     rw[tZ];exact jr.of_eq ((eT 4928768192 ae ae).trans (aR ae))
    cases e2;simp only[go_sem,b10,q6];refine mZ (site:=4928768192) (id:=4928768192) (bytes:=48) (xs:=[aU.ps m]) (rd:=[4928768128]) (xO.of_eq (by simp only[aN,Nat.reduceEqDiff,if_false])) (by simp[ed,aN,aU.ps]) (.inl rfl) (by simp only[mN,cS,eE];omega) fun c' fN r1 u1 jr ef ig=>?_;have Ld:=ef 4928640384 ae ae;simp only[go_sem] at Ld;simp only[go_sem,Ld,q7];have bx3:=(ef (4928640128+1) ae ae);simp only[Nat.reduceAdd,aN,Nat.reduceEqDiff,if_false] at bx3 hbx;have hx3:=bx3.trans hbx;have gx3:grown (4928640128+1) gH 6 (aZ M) (.one (.hsl (4928640128+1) g2 6 0 M.length)) fN:=.inr ⟨alK,g2,by rw[aZ,cH],hx3⟩
    obtain⟨fr,hx,vr,yh⟩:=ajn (aj:=dj fN 4928768384 ((fN 4928768384).1+1,some (.gU xG 2 [[.p (.int .i64 F),.hsl (4928640128+1) g2 6 0 M.length]]))) (s:=4928768384) rL (gx3.of_eq (aR ae));have gc3:=Ej.of_eq ((ef 4928768448 ae ae).trans (by simp only[aN,Nat.reduceEqDiff,if_false]:_=ba 4928768448));have nf:∀i,i≠4928640128+1->i∉fr:=fun i a h=>by
     rcases yh with rfl|rfl
     .cases h
     exact a (lK.1 h)
    refine YN (site:=4928768448) (id:=4928768448) (bytes:=32) (gc3.of_eq (aR ae)) hx vr (nf _ ae) (nf _ ae) (.inl rfl) (by simp only[cS,eE];omega) fun d' vc r2 u2 hd1 eT r9=>?_;have Lf:=(eT 4928448128 ae ae (nf _ ae)).trans ((aR ae).trans (ef 4928448128 ae ae));simp only[aN,Nat.reduceEqDiff,if_false] at Lf;have bL5:=Lf.trans bL2;simp only[go_sem,q0,q1,q6,q7,q8,uh,qE,Bm,bL5,w2,wP];refine⟨?_,ms++[m],_,c',d',by simp;omega,by simp;omega,Jm,aaE,aaN,aaZ,rfl,rfl,?_,hd1⟩
    .rcases yh with rfl|rfl<;>rcases ig with ⟨rfl,rfl⟩|⟨rfl,rfl⟩|⟨rfl,rfl⟩<;>rcases r9 with ⟨rfl,rfl⟩|⟨rfl,rfl⟩|⟨rfl,rfl⟩<;>kernel_rfl
    rw[tZ];exact jr.of_eq ((eT 4928768192 ae ae (nf _ ae)).trans (aR ae))
   have:j=ns.length:=aa;subst this;simp only[go_sem,i77_l1,i77_r2,q0,q1,q6,q7,q8,qE,Bm,dG,w1];exact⟨aq,ms,cs,c,d,aa,aa,au,zq.next fun _=>⟨ns,Gu,fun m hm hM=>by obtain⟨i,hi⟩:=jd hm;exact iT i (bg.1 hi).1 m hi hM⟩,⟨fun m hm=>by rcases vv.1 m hm with h|h<;>omega,vv.2⟩,rfl,rfl,gm,gc⟩
 have:k=10:=aa;subst this;have gj:¬(((10+1:Nat):Int)<=10):=ae;simp only[go_sem,i77_l3,i77_r4,e6,e7,e8,gj];exact⟨_,⟨ms,cs,⟨r8,au,zq,vv.2⟩,rfl⟩,IZ ae gm gc⟩
theorem ar4(g:bQ F ls)(aI:0<ls.length)(want:List Int)(iW:want.length<=10)(hw:∀k∈want,wY k):∃ms cs,(ms.length<=8000/\ ∀m∈ms,tz F ls want m)/\aF S 77 [.one (.p (fO F ls)),.one (.p (.sl (iP want)))] (.tup [.one (aO jY 7 (mP ms)),.one (aO xG 2 cs)]):=by obtain⟨ms,cs,⟨h1,h2,_⟩,h⟩:=ae6 g aI want iW hw;exact⟨ms,cs,⟨h1,h2⟩,h⟩
end
section
variable {F:Nat} {ls:List Let}
end
section
variable {F:Nat}
theorem ah6{k:Int}(hk:(k==2)=false):aF S 116 [.one (.p (fO F [])),vi k] (.one (aO jY 7 [])):=by have cK:(jk (pieces [])).length=0:=rfl;have h7:(((0:Nat):Int)==0)=true:=ae;refine aV c116 ?_;simp only[go_sem,i116,i116_r12,cK,h7,hk];refine kG ?_;simp only[go_sem,i116_l10,i116_r11,zz];rfl
theorem ar2(want:List Int)(iW:want.length<=10)(hw:∀k∈want,wY k):aF S 77 [.one (.p (fO F [])),.one (.p (.sl (iP want)))] (.tup [.one (aO jY 7 []),.one (aO xG 2 [])]):=by
 have iD:S.lone 4928448128=false:=ah;refine aV c77 ?_;simp only[go_sem,i77];refine cJ (fun k ak aj=>ak 0=.one (.p (fO F []))/\ak 1=.one (.p (.sl (iP want)))/\ak 8=vi ((k+1:Nat):Int)/\ak 6=.one (.p .nils)/\ak 7=.one (.p .nils)) 0 10 (bj _) ?_ ?_
 .simp only[go_sem];rfl
 rintro k ak aj hk ⟨e0,e1,e8,e6,e7⟩
 by_cases aq:k<10
 .have aL:((k+1:Nat):Int)<=10:=aa;have w1:=bN (n:=k+1) aa;have ph:=Yv want ((k+1:Nat):Int) aa;cases hc:want.contains ((k+1:Nat):Int) with
  |false=>rw[hc] at ph;simp only[go_sem,i77_l3,i77_r2,e0,e1,e6,e7,e8,aL,s115,bh ph,w1];exact aq
  |true=>
   have qn:((k+1:Nat):Int)∈want:=by simpa using hc
   have pc:=ah6 (F:=F) (k:=((k+1:Nat):Int)) (tF.2 (by have:=hw _ qn;unfold wY k5 at this;omega));rw[hc] at ph;simp only[go_sem,i77_l3,e0,e1,e8,aL,s115,bh ph,s116];refine vj pc iD (.inl rfl) fun cc cn gl cq=>?_;rcases gl with ⟨e,e2⟩|⟨h,_⟩
   .cases e2;simp only[go_sem];refine kG ?_;simp only[go_sem,i77_l1,i77_r2,e0,e1,e6,e7,e8,zz,w1];exact aq
   exact absurd rfl h
 have:k=10:=aa;subst this;have gj:¬(((10+1:Nat):Int)<=10):=ae;simp only[go_sem,i77_l3,i77_r4,e6,e7,e8,gj];rfl
end
section
variable {F:Nat} {ls:List Let}
theorem X9(h:di (F:Int) []=0):F<=40:=by
 unfold di at h;rw[ay ae] at h;by_cases hf:(F:Int)<0\/40<(F:Int)
 .rw[aD hf] at h;cases h
 omega
theorem ar3(h:di (F:Int) ls=0)(want:List Int)(iW:want.length<=10)(hw:∀k∈want,wY k):∃ms cs,(ms.length<=8000/\ ∀m∈ms,tz F ls want m)/\aF S 77 [.one (.p (fO F ls)),.one (.p (.sl (iP want)))] (.tup [.one (aO jY 7 (mP ms)),.one (aO xG 2 cs)]):=by
 by_cases aI:ls=[]
 .subst aI;exact⟨[],[],⟨af,fun m h=>by cases h⟩,ar2 want iW hw⟩
 obtain⟨G,e,g⟩:=xM h aI;have:F=G:=aa;subst this;exact ar4 g (jl.2 aI) want iW hw
theorem aoL(h:di (F:Int) ls=0):aF S 76 [cZ F ls] (Ah (fO F ls) (.int .i64 0)):=by
 by_cases aI:ls=[]
 .subst aI;exact aoJ (X9 h)
 obtain⟨G,e,g⟩:=xM h aI;have:F=G:=aa;subst this;exact Vs g
theorem agt(h:di (F:Int) ls=0)(want:List Int)(iW:want.length<=10)(hw:∀k∈want,wY k):∃ms,(ms.length<=8000/\ ∀m∈ms,tz F ls want m)/\aF S 40 [cZ F ls,.one (.p (.sl (iP want)))] (.tup [.one (aO jY 7 (mP ms)),.one (.p (.int .i64 0))]):=by obtain⟨ms,cs,hm,ps⟩:=ar3 h want iW hw;have po:=aoL h;have lo:S.lone 2560256128=false:=ah;refine⟨ms,hm,?_⟩;refine aV c40 ?_;simp only[go_sem,i40,s76,cU po mw,s77];refine IW ps lo fun c d cn gc gd hb=>?_;simp only[go_sem];exact LZ gc
theorem Xi(g:bQ F ls)(want:List Int)(iW:want.length<=10)(hw:∀k∈want,wY k):∃ms,(ms.length<=8000/\(∀m∈ms,tz F ls want m)/\CS F ls want 10 ms/\ms.Pairwise uP)/\aF S 40 [cZ F ls,.one (.p (.sl (iP want)))] (.tup [.one (aO jY 7 (mP ms)),.one (.p (.int .i64 0))]):=by obtain⟨ms,cs,hm,ps⟩:=ae6 g (jl.2 g.ne) want iW hw;have po:=Vs g;have lo:S.lone 2560256128=false:=ah;refine⟨ms,hm,?_⟩;refine aV c40 ?_;simp only[go_sem,i40,s76,cU po mw,s77];refine IW ps lo fun c d cn gc gd hb=>?_;simp only[go_sem];exact LZ gc
abbrev aeh:List Int:=[1,4,6]
abbrev Hu(m:aU)(b:Bool):RV:=.tup [.agg (m.ps.map .p),.one (.p (.bool b))]
theorem aqZ(ms:List aU):((mP ms).all fun e=>e.all PV.scalar)=true:=by rw[ir];intro e he;obtain⟨i,_,rfl⟩:=dI.1 he;rfl
abbrev afV:aU:=⟨0,0,0,0,false,false,0⟩
def hdV:List aU->RV
 |[]=>Hu afV false
 |m::_=>Hu m true
end
theorem anb{aj:aw}{rd:List Nat}{s:Nat}{b:Bool}{l:Bool}:land aj rd s ((Hu m b).eD l)=some (.tup [.agg [.p (.int .i64 m.k),.p (.int .i64 m.a),.p (.int .i64 m.b),.p (.int .i64 m.c),.p (.bool m.l),.p (.bool m.o),.p (.int .i64 m.s)],.one (.p (.bool b))],[]):=by cases l<;>(unfold land;rw[aD (.inr rfl)];rfl)
def ac5(F:Nat)(L:List Let):Prop:=aF S 40 [cZ F L,.one (.p (.sl (iP aeh)))] (.tup [.one (aO jY 7 []),.one (.p (.int .i64 0))])
theorem anB:∀ {A B:List Let},aZ A=aZ B->A=B:=by
 intro A
 induction A with
 |nil=>intro B h;cases B with
  |nil=>rfl
  |cons _ _=>cases h
 |cons a A ih=>
  intro B h;cases B with
  |nil=>cases h
  |cons b B=>have h:a.ps::aZ A=b.ps::aZ B:=h;rw[As] at h;rw[ih h.2];have h1:=h.1;cases a;cases b;simp only[Let.ps,As,PV.int.injEq,PV.bool.injEq,and_true,true_and] at h1;obtain⟨rfl,rfl,rfl,rfl,rfl,rfl⟩:=h1;rfl
theorem aqI{A B:List Let}(h:mz F A=mz F B):A=B:=by
 unfold mz at h;simp only[RV.tup.injEq,As,RV.agg.injEq,and_true,true_and] at h;unfold aO at h;by_cases hA:aZ A=[]
 .by_cases hB:aZ B=[]
  .rw[WU.1 hA,WU.1 hB]
  rw[aD hA,ay hB] at h;cases h
 by_cases hB:aZ B=[]
 .rw[ay hA,aD hB] at h;cases h
 rw[ay hA,ay hB] at h;simp only[RC.own.injEq,true_and] at h;exact anB h
theorem QV{L:List Let}{e:Int}(he:e≠0):mz F L≠sH e:=fun h=>by unfold mz sH at h;simp only[RV.tup.injEq,As,RV.one.injEq,RC.p.injEq,PV.int.injEq,and_true,true_and] at h;exact he h.2.symm
theorem Xy{ls M:List Let}(aI:ls≠[])(h:oO F ls m.k m.a m.b m.c m.l m.o m.s=mz F M):jA F ls m=some M:=by
 unfold jA;rw[ay aI];unfold oO at h;by_cases hA:bY F ls m.k m.a m.b m.c m.l m.o m.s=true
 .rw[aD hA] at h ⊢;cases hM:sC F ls m.k m.a.toNat m.b.toNat m.c.toNat m.l m.o m.s with
  |none=>rw[hM] at h;exact absurd h.symm (QV ae)
  |some L=>
   rw[hM] at h;dsimp only;by_cases hc:(400:Int)<(ls.length:Int)+(lR m.k).1\/(100:Int)<((aC Let.aG ls/2:Nat):Int)+(lR m.k).2
   .have e2:ze F ls m.k (some L)=sH 7:=aD hc;rw[e2] at h;exact absurd h.symm (QV ae)
   have e2:ze F ls m.k (some L)=mz F (nh L):=ay hc;rw[e2] at h;rw[ay hc,aqI h]
 rw[ay hA] at h;exact absurd h.symm (QV ae)
section
variable {F:Nat} {L:List Let}
theorem Sw(g:bQ F L)(hk:k5 m.k):jA F L m=if bY F L m.k m.a m.b m.c m.l m.o m.s=true then (sC F L m.k m.a.toNat m.b.toNat m.c.toNat m.l m.o m.s).map nh else none:=by
 have hg:lR m.k=(0,0):=by unfold k5 at hk;rcases hk with h|h<;>rw[h]<;>rfl
 have h1:=g.len;have h2:=g.cr;unfold jA;rw[ay g.ne,hg];split
 .cases sC F L m.k m.a.toNat m.b.toNat m.c.toNat m.l m.o m.s with
  |none=>rfl
  |some X=>dsimp only;rw[ay aa];rfl
 rfl
theorem OG(g:bQ F L)(hk:k5 m.k){X:List Let}(h:jA F L m=some X):di (F:Int) X=0/\bY F L m.k m.a m.b m.c m.l m.o m.s=true/\ ∃P,sC F L m.k m.a.toNat m.b.toNat m.c.toNat m.l m.o m.s=some P/\X=nh P:=by
 rw[Sw g hk] at h;split at h
 case isFalse=>cases h
 rename_i hA;obtain⟨P,hP,rfl⟩:=dx.1 h;refine⟨?_,hA,P,hP,rfl⟩;rcases Sv g hk m.a m.b m.c m.l m.o m.s with ⟨e,he,h1⟩|⟨M',h1,h2,h3,Q,h4,rfl⟩
 .exfalso;have hg:lR m.k=(0,0):=by
   unfold k5 at hk;rcases hk with h|h<;>rw[h]<;>rfl
  have k1:=g.len;have k2:=g.cr;unfold oO at h1;rw[aD hA,hP] at h1;have e2:ze F L m.k (some P)=mz F (nh P):=ay (by rw[hg];dsimp only;omega);rw[e2] at h1;exact aqH he h1
 rw[hP] at h4;cases h4;exact h2
abbrev mv2(k:Int)(a b:Nat):aU:=⟨k,a,b,0,false,false,0⟩
abbrev mv3(k:Int)(a b c:Nat):aU:=⟨k,a,b,c,false,false,0⟩
theorem OH{k a b c sg:Int}{l o:Bool}(hk:k=1\/k=4):bY F L k a b c l o sg=true↔ ∃av:Nat,av<L.length/\a=av/\b=0/\c=0/\l=false/\o=false/\sg=0:=by
 unfold bY;rcases hk with rfl|rfl
 all_goals
  simp only[Int.reduceEq,if_true,if_false,or_false,or_true,cN,sM,dL];constructor
  .rintro ⟨rfl,rfl,rfl,hx,rfl,rfl⟩
   obtain⟨av,rfl,ha⟩:=ug hx;exact⟨av,ha,rfl,rfl,rfl,rfl,rfl,rfl⟩
  rintro ⟨av,ha,rfl,rfl,rfl,rfl,rfl,rfl⟩
  exact⟨rfl,rfl,rfl,by unfold iX;simp;omega,rfl,rfl⟩
theorem Ig{k a b c sg:Int}{l o:Bool}(hk:k=3\/k=6):bY F L k a b c l o sg=true↔ ∃av bv:Nat,av<bv/\bv<L.length/\a=av/\b=bv/\c=0/\l=false/\o=false/\sg=0:=by
 unfold bY;rcases hk with rfl|rfl
 all_goals
  simp only[Int.reduceEq,if_true,if_false,or_false,or_true,cN,sM,dL,kV];constructor
  .rintro ⟨rfl,rfl,rfl,hx,rfl,hy,aq⟩
   obtain⟨av,rfl,ha⟩:=ug hx;obtain⟨bv,rfl,hb⟩:=ug hy;exact⟨av,bv,aa,hb,rfl,rfl,rfl,rfl,rfl,rfl⟩
  rintro ⟨av,bv,dX,hb,rfl,rfl,rfl,rfl,rfl,rfl⟩
  exact⟨rfl,rfl,rfl,by unfold iX;simp;omega,rfl,by unfold iX;simp;omega,aa⟩
theorem OI{a b c sg:Int}{l o:Bool}:bY F L 8 a b c l o sg=true↔ ∃av bv cv:Nat,av<bv/\bv<cv/\cv<L.length/\a=av/\b=bv/\c=cv/\l=false/\o=false/\sg=0:=by
 unfold bY;simp only[Int.reduceEq,if_true,if_false,or_self,cN,sM,dL,kV];constructor
 .rintro ⟨rfl,rfl,rfl,hx,hy,hz,h1,h2⟩
  obtain⟨av,rfl,ha⟩:=ug hx;obtain⟨bv,rfl,hb⟩:=ug hy;obtain⟨cv,rfl,hc⟩:=ug hz;exact⟨av,bv,cv,aa,aa,hc,rfl,rfl,rfl,rfl,rfl,rfl⟩
 rintro ⟨av,bv,cv,dX,Co,hc,rfl,rfl,rfl,rfl,rfl,rfl⟩
 exact⟨rfl,rfl,rfl,by unfold iX;simp;omega,by unfold iX;simp;omega,by unfold iX;simp;omega,aa,aa⟩
theorem acF:∀ {A B:List aU},mP A=mP B->A=B:=by
 intro A
 induction A with
 |nil=>intro B h;cases B with
  |nil=>rfl
  |cons b B=>cases h
 |cons a A ih=>
  intro B h;cases B with
  |nil=>cases h
  |cons b B=>
   have h:aU.ps a::mP A=aU.ps b::mP B:=h;obtain⟨h1,h2⟩:=HP h;rw[ih h2];cases a;cases b;unfold aU.ps at h1;simp only[As,PV.int.injEq,PV.bool.injEq,true_and,and_true] at h1;simp only[As,aU.mk.injEq,and_true]
   simp_all
theorem akS{A B:List aU}(h:(RV.tup [.one (aO jY 7 (mP A)),.one (.p (.int .i64 0))])=.tup [.one (aO jY 7 (mP B)),.one (.p (.int .i64 0))]):A=B:=by
 simp only[RV.tup.injEq,As,RV.one.injEq,and_true] at h;apply acF;unfold aO at h;by_cases a:mP A=[]<;>by_cases b:mP B=[]
 .rw[a,b]
 .rw[aD a,ay b] at h;cases h
 .rw[ay a,aD b] at h;cases h
 rw[ay a,ay b] at h;simp only[RC.own.injEq] at h;exact h.2.2
theorem aiG{pl a b:Nat}(dX:a<b)(h:rV F L pl [a,b] a=true)(hs:∀j,j<2->jK kk a (kr F L (2*a+j)).bl ns)(h8:kk≠8):mv2 kk a b∈ns:=by
 have key:∀f:Fc,ve f pl [a,b]=true->jK kk a f.bl ns->mv2 kk a b∈ns:=fun f hf hs=>by
  unfold ve at hf;simp only[cN,dL,ir] at hf;obtain⟨h1,_,h3⟩:=hf;have ex:∀e∈[a,b],∃d∈f.bl,d/2=e:=fun e he=>by have h4:=h3 e he;unfold uB at h4;obtain⟨d,hd,qk⟩:=yJ.1 (show 0<f.bl.countP fun d=>d/2==e by omega);exact⟨d,hd,dL.1 qk⟩
  exact hs.1 h8 b dX h1 (ex a af) (ex b af)
 unfold rV at h;rw[sN] at h;rcases h with h|h
 .exact key _ h (hs 0 ae)
 exact key _ h (hs 1 ae)
theorem aiH{pl a b c:Nat}(dX:a<b)(Co:b<c)(h:rV F L pl [a,b,c] a=true)(hs:∀j,j<2->jK 8 a (kr F L (2*a+j)).bl ns):mv3 8 a b c∈ns:=by
 have key:∀f:Fc,ve f pl [a,b,c]=true->jK 8 a f.bl ns->mv3 8 a b c∈ns:=fun f hf hs=>by
  unfold ve at hf;simp only[cN,dL,ir] at hf;obtain⟨h1,_,h3⟩:=hf;have ex:∀e∈[a,b,c],∃d∈f.bl,d/2=e:=fun e he=>by have h4:=h3 e he;unfold uB at h4;obtain⟨d,hd,qk⟩:=yJ.1 (show 0<f.bl.countP fun d=>d/2==e by omega);exact⟨d,hd,dL.1 qk⟩
  exact hs.2 rfl b c dX Co h1 (ex a af) (ex b af) (ex c af)
 unfold rV at h;rw[sN] at h;rcases h with h|h
 .exact key _ h (hs 0 ae)
 exact key _ h (hs 1 ae)
theorem ah8(g:bQ F L){X:List Let}(hk:k5 m.k)(h:jA F L m=some X)(hc:CP F L m.k ns):m∈ns:=by
 obtain⟨k,a,b,c,l,o,sg⟩:=m;obtain⟨_,hA,P,hP,_⟩:=OG g hk h;simp only at hA hP hc;have hk:k5 k:=hk;unfold k5 at hk;rcases hk with rfl|rfl
 .obtain⟨av,bv,dX,hb,rfl,rfl,rfl,rfl,rfl,rfl⟩:=(Ig (.inl rfl)).1 hA;have hP:uy F L av bv=some P:=hP;unfold uy at hP;split at hP
  case isFalse=>cases hP
  rename_i ht;simp only[cN] at ht;exact aiG dX ht.2.2.2.2 (hc.2 (.inl rfl) av aa) ae
 obtain⟨av,bv,cv,dX,Co,cP,rfl,rfl,rfl,rfl,rfl,rfl⟩:=OI.1 hA;have hP:tC F L av bv cv=some P:=hP;unfold tC at hP;split at hP
 case isFalse=>cases hP
 rename_i ht;unfold FI at ht;simp only[cN] at ht;exact aiH dX Co ht.2.2.2.2.2 (hc.2 (.inr (.inr rfl)) av aa)
theorem ag5(g:bQ F L){X:List Let}(hk:k5 m.k)(h:jA F L m=some X):oO F L m.k m.a m.b m.c m.l m.o m.s=mz F X:=by
 obtain⟨_,hA,P,hP,rfl⟩:=OG g hk h;have hg:lR m.k=(0,0):=by unfold k5 at hk;rcases hk with h|h<;>rw[h]<;>rfl
 have k1:=g.len;have k2:=g.cr;unfold oO;rw[aD hA,hP];exact ay (by rw[hg];dsimp only;omega)
theorem agu(g:bQ F L){want:List Int}(iW:want.length<=10)(hw:∀k∈want,wY k)(hs:aF S 40 [cZ F L,.one (.p (.sl (iP want)))] (.tup [.one (aO jY 7 (mP ms)),.one (.p (.int .i64 0))])){X:List Let}(hm:m.k∈want)(h:jA F L m=some X):m∈ms:=by obtain⟨Nd,⟨_,_,hc,_⟩,MQ⟩:=Xi g want iW hw;rw[akS (aF.xK hs MQ)];have hk:k5 m.k:=hw _ hm;obtain⟨ns,h1,h2⟩:=hc m.k hm (by unfold k5 at hk;omega) (by unfold k5 at hk;omega);exact h2 m (ah8 g hk h h1) ⟨X,ag5 g hk h⟩
theorem adv(h:di (F:Int) L=0){want:List Int}(hw:∀k∈want,wY k)(hm:tz F L want m):m.k∈want/\bQ F L/\ ∃X,jA F L m=some X/\di (F:Int) X=0:=by
 obtain⟨h1,⟨a,ha,_⟩,X,hX⟩:=hm;have aI:L≠[]:=fun e=>by rw[e] at ha;simp at ha
 obtain⟨G,e,g⟩:=xM h aI;have:F=G:=aa;subst this;have h2:=Xy aI hX;exact⟨h1,g,X,h2,(OG g (hw _ h1) h2).1⟩
end

end
end Go.Abs
