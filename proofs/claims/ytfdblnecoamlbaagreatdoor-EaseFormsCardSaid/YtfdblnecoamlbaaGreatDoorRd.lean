/-
  The moves that are tried and those that are possible; the reducing search.
-/
import Derived.Test.YtfdblnecoamlbaaGreatDoorUe
import Derived.Test.YtfdblnecoamlbaaGreatDoorRa
set_option linter.all false
set_option maxRecDepth 100000
set_option maxHeartbeats 16000000
namespace Go.Abs
section
variable{F av:Nat}{kk:Int}{ms:g_}{D:a_}{ls:ai}
def HS(q:Pc->Bool):Prop:=∀p p':Pc,p.l.kind=p'.l.kind->q p=q p'
def Xu{q:Pc->Bool}(l:c_)(drop:Nat->Pc->Bool):(qK l drop).countP q<=l.countP q:=by
 have key:∀k,k<=l.length->(uL l drop k).countP q<=(l.take k).countP q:=by
  intro k
  induction k with
  |zero=>intro _;exact bR _
  |succ k ih=>
   intro hk;obtain⟨p,hp⟩:=aM (ls:=l) (k:=k) aa;have:=ih aa;rw[qq,hp,xf];cases hd:drop k p
   .rw[Kv hp hd,xf];exact Nat.add_le_add_right this _
   rw[BS hp hd];omega
 have:=key l.length (bR _);rwa[lf] at this
def XR{q:Pc->Bool}(hq:HS q){f:Pc->Pc}(hf:∀p,(f p).l.kind=p.l.kind)(l:c_):(l.map f).countP q=l.countP q:=by rw[Ba];exact IC fun p _=>by rw[Function.comp_apply,hq _ _ (hf p)]
def atB(g ab b:Int)(p:Pc):(tu g ab b p).l.kind=p.l.kind:=by unfold tu;split<;>rfl
def afX(ids:d_)(p:Pc):(tj ids p).l.kind=p.l.kind:=by unfold tj;split<;>rfl
section
variable {F:Nat} {ls:ai}
def aif(g:cX F ls){q:Pc->Bool}:∀(es:a_) (l:c_),l.length=ls.length->(∀e∈es,e<ls.length)->(fY ls l es).countP q=l.countP q:=by
 intro es
 induction es with
 |nil=>intro l _ _;rfl
 |cons e es ih=>intro l hl he;show(fY ls (fj ls l e) es).countP q=_;rw[ih _ (by rw[zx,hl]) fun e h=>he e (by simp[h]),Lh hl (he e af) (Rg g (he e af))]
def ahK{q:Pc->Bool}(hq:HS q)(l:c_)(i:Nat)(r:Int):(eW l i r).countP q=l.countP q:=by
 by_cases h:i<l.length
 .obtain⟨p,hp⟩:=aM h;exact YE hp fun p=>hq _ _ rfl
 unfold eW;rw[List.set_eq_of_length_le aa]
def k5 (k:Int):Prop:=k=1\/k=3\/k=4\/k=6\/k=8
def Q8(g:cX F ls){q:Pc->Bool}(hq:HS q){k:Int}(hk:k5 k){a b c:Nat}{l o:Bool}{sg:Int}(ha:a<ls.length)(hb:b<ls.length\/(k≠3/\k≠8))(hc:c<ls.length\/k≠8){L:c_}(h:qk F ls k a b c l o sg=some L):L.countP q<=(pieces ls).countP q:=by
 have bY:=fK ls;rcases hk with rfl|rfl|rfl|rfl|rfl
 .have h:ug ls a=some L:=h;unfold ug at h;simp only at h;split at h
  .cases h;show(List.map _ _).countP q<=_;rw[XR hq (atB _ _ _)];exact Xu (q:=q) (pieces ls) _
  cases h
 .have h:rS F ls a b=some L:=h;unfold rS at h;split at h
  .cases h;rw[aif g _ _ (by rw[zu,zu,bY]) (by
    intro e he;simp only[cD,fq,or_false] at he;rcases he with rfl|rfl
    .exact ha
    rcases hb with hb|hb
    .exact hb
    exact absurd rfl hb.1),ahK hq,ahK hq]
   exact bR _
  cases h
 .have h:uM ls a=some L:=h;unfold uM at h;simp only at h;split at h
  .cases h;show(List.map _ _).countP q<=_;rw[XR hq (afX _)];exact Xu (q:=q) (pieces ls) _
  cases h
 .have h:uS F ls a b=some L:=h;unfold uS at h;split at h
  .cases h;show(List.map _ _).countP q<=_;rw[XR hq (afX _)];exact Xu (q:=q) (pieces ls) _
  cases h
 have h:tx F ls a b c=some L:=h;unfold tx at h;split at h
 .cases h;rw[aif g _ _ bY (by
   intro e he;simp only[cD,fq,or_false] at he;rcases he with rfl|rfl|rfl
   .exact ha
   .rcases hb with hb|hb
    .exact hb
    exact absurd rfl hb.2
   rcases hc with hc|hc
   .exact hc
   exact absurd rfl hc)]
  exact bR _
 cases h
def do5(g:cX F ls){k:Int}(hk:k5 k)(a b c:Int)(l o:Bool)(sg:Int):aK S 54 [.one (.p (eU F ls)),lL k a b c l o sg] (nU F ls k a b c l o sg):=by
 have pa:=ZW (F:=F) (ls:=ls) (a:=a) (b:=b) (c:=c) (l:=l) (o:=o) (sg:=sg) k;have hlen:=g.len;have eV:=g.cr;unfold nU;cases hA:di F ls k a b c l o sg with
 |false=>rw[hA] at pa;exact abp pa
 |true=>
  rw[hA] at pa;rw[aD rfl];have hL:∀L,qk F ls k a.toNat b.toNat c.toNat l o sg=some L->L.length<=1000000:=fun L h=>by have:=af7 h;omega
  have ne:=g.ne;have jZ:¬ls.length=0:=by have:=jl.2 ne;omega
  unfold di at hA;by_cases h1:k=1
  .subst h1;simp only[Int.reduceEq,if_true,if_false,or_false,or_self] at hA;simp only[cU,mj,dk] at hA;obtain⟨rfl,rfl,rfl,hx,rfl,rfl⟩:=hA;obtain⟨av,rfl,ha⟩:=oF hx;simp only[pP] at hL |-;exact Mk hlen eV (k:=1) rfl ae ah pa (ajY g ha) hL
  by_cases h3:k=3
  .subst h3;simp only[Int.reduceEq,if_true,if_false,or_false,or_self] at hA;simp only[cU,mj,dk,oO] at hA;obtain⟨rfl,rfl,rfl,hx,rfl,hy,aw⟩:=hA;obtain⟨av,rfl,ha⟩:=oF hx;obtain⟨bv,rfl,hb⟩:=oF hy;simp only[pP] at hL |-;exact Mk hlen eV (k:=3) rfl ae ah pa (aj4 g ha hb) hL
  by_cases h4:k=4
  .subst h4;simp only[Int.reduceEq,if_true,if_false,or_false,or_true,or_self] at hA;simp only[cU,mj,dk] at hA;obtain⟨rfl,rfl,rfl,hx,rfl,rfl⟩:=hA;obtain⟨av,rfl,ha⟩:=oF hx;simp only[pP] at hL |-;exact Mk hlen eV (k:=4) rfl ae ah pa (aqn g ha) hL
  by_cases h6:k=6
  .subst h6;simp only[Int.reduceEq,if_true,if_false,or_true,or_self] at hA;simp only[cU,mj,dk,oO] at hA;obtain⟨rfl,rfl,rfl,hx,rfl,hy,aw⟩:=hA;obtain⟨av,rfl,ha⟩:=oF hx;obtain⟨bv,rfl,hb⟩:=oF hy;simp only[pP] at hL |-;exact Mk hlen eV (k:=6) rfl ae ah pa (arx g ha hb) hL
  by_cases h8:k=8
  .subst h8;simp only[Int.reduceEq,if_true,if_false,or_self] at hA;simp only[cU,mj,dk,oO] at hA;obtain⟨rfl,rfl,rfl,hx,hy,hz,_,_⟩:=hA;obtain⟨av,rfl,ha⟩:=oF hx;obtain⟨bv,rfl,hb⟩:=oF hy;obtain⟨cv,rfl,hc⟩:=oF hz;simp only[pP] at hL |-;exact Mk hlen eV (k:=8) rfl ae ah pa (avr g ha hb hc) hL
  exact absurd hk (by rintro (h|h|h|h|h)<;>contradiction)
def Tk(g:cX F ls){k:Int}(hk:k5 k)(a b c:Int)(l o:Bool)(sg:Int):aK S 30 [dY F ls,lL k a b c l o sg] (nU F ls k a b c l o sg):=ZV (Ya g) (do5 g hk a b c l o sg) ajC
def LS(g:cX F ls){k:Int}(hk:k5 k)(a b c:Int)(l o:Bool)(sg:Int):(∃e,e≠0/\nU F ls k a b c l o sg=nJ e)\/ ∃M,nU F ls k a b c l o sg=jy F M/\bQ F M=0/\di F ls k a b c l o sg=true/\ ∃L,qk F ls k a.toNat b.toNat c.toNat l o sg=some L/\M=eL L:=by
 unfold nU;cases hA:di F ls k a b c l o sg
 .exact .inl ⟨2,ae,rfl⟩
 rw[aD rfl];cases hm:qk F ls k a.toNat b.toNat c.toNat l o sg with
 |none=>exact .inl ⟨4,ae,rfl⟩
 |some L=>
  unfold sP;by_cases sX:(400:Int)<(ls.length:Int)+(gZ k).1\/(100:Int)<((aq Let.aA ls/2:Nat):Int)+(gZ k).2
  .exact .inl ⟨7,ae,aD sX⟩
  refine .inr ⟨eL L,ay sX,?_,rfl,L,rfl,rfl⟩;have hlen:=g.len;have eV:=g.cr;have hF:=g.fing;have ne:=g.ne;have jZ:¬ls.length=0:=by have:=jl.2 ne;omega
  have eD:aq Let.aA ls%2=0:=by have:=g.cz.ev;rwa[mF] at this
  have bY:=fK ls;have kT:HS (fun _=>true):=fun _ _ _=>rfl;have kC:HS (fun p=>p.l.aA):=fun p p' h=>by show(p.l.kind==2)=(p'.l.kind==2);rw[h]
  have pC:(pieces ls).countP (fun p=>p.l.aA)=aq Let.aA ls:=by rw[<- Ry (ls:=ls) Let.aA];show _=List.countP _ (List.map _ _);rw[Ba];rfl
  have lC:aq Let.aA (L.map Pc.l)=L.countP (fun p=>p.l.aA):=by show List.countP _ (List.map _ _)=_;rw[Ba];rfl
  have tT:∀l:c_,l.countP (fun _=>true)=l.length:=fun l=>af;have fin:L=[]\/Cert F L->(∀ {av bv cv:Nat},a=(av:Int)->b=(bv:Int)->c=(cv:Int)->av<ls.length->(bv<ls.length\/(k≠3/\k≠8))->(cv<ls.length\/k≠8)->bQ F (eL L)=0):=by
   intro hc av bv cv e1 e2 e3 ha hb uz;subst e1 e2 e3;simp only[pP] at hm;have c1:=Q8 g kT hk ha hb uz hm;have c2:=Q8 g kC hk ha hb uz hm;rw[tT,tT,bY] at c1;rw[pC] at c2;rcases hc with rfl|hc
   .unfold bQ;have:eL []=[]:=rfl;rw[this];rw[ay (by simp[aq]),ay aa,aD rfl]
   exact hc.check aa (by rw[lC];omega) hF
  unfold di at hA;by_cases h1:k=1
  .subst h1;simp only[Int.reduceEq,if_true,if_false,or_false,or_self] at hA;simp only[cU,mj,dk] at hA;obtain⟨rfl,rfl,rfl,hx,rfl,rfl⟩:=hA;obtain⟨av,rfl,ha⟩:=oF hx;exact fin (akP g ha (by simpa [qk] using hm)) rfl (bv:=0) rfl (cv:=0) rfl ha (.inr ⟨ae,ae⟩) (.inr ae)
  by_cases h3:k=3
  .subst h3;simp only[Int.reduceEq,if_true,if_false,or_false,or_self] at hA;simp only[cU,mj,dk,oO] at hA;obtain⟨rfl,rfl,rfl,hx,rfl,hy,aw⟩:=hA;obtain⟨av,rfl,ha⟩:=oF hx;obtain⟨bv,rfl,hb⟩:=oF hy;exact fin (.inr (TB g ha hb aa (by simpa [qk] using hm))) rfl rfl (cv:=0) rfl ha (.inl hb) (.inr ae)
  by_cases h4:k=4
  .subst h4;simp only[Int.reduceEq,if_true,if_false,or_false,or_true,or_self] at hA;simp only[cU,mj,dk] at hA;obtain⟨rfl,rfl,rfl,hx,rfl,rfl⟩:=hA;obtain⟨av,rfl,ha⟩:=oF hx;exact fin (.inr (akQ g ha (by simpa [qk] using hm))) rfl (bv:=0) rfl (cv:=0) rfl ha (.inr ⟨ae,ae⟩) (.inr ae)
  by_cases h6:k=6
  .subst h6;simp only[Int.reduceEq,if_true,if_false,or_true,or_self] at hA;simp only[cU,mj,dk,oO] at hA;obtain⟨rfl,rfl,rfl,hx,rfl,hy,aw⟩:=hA;obtain⟨av,rfl,ha⟩:=oF hx;obtain⟨bv,rfl,hb⟩:=oF hy;exact fin (.inr (akR g ha hb (by simpa [qk] using hm))) rfl rfl (cv:=0) rfl ha (.inr ⟨ae,ae⟩) (.inr ae)
  by_cases h8:k=8
  .subst h8;simp only[Int.reduceEq,if_true,if_false,or_self] at hA;simp only[cU,mj,dk,oO] at hA;obtain⟨rfl,rfl,rfl,hx,hy,hz,_,_⟩:=hA;obtain⟨av,rfl,ha⟩:=oF hx;obtain⟨bv,rfl,hb⟩:=oF hy;obtain⟨cv,rfl,hc⟩:=oF hz;exact fin (.inr (TC g ha hb hc (by simpa [qk] using hm))) rfl rfl rfl ha (.inl hb) (.inl hc)
  exact absurd hk (by rintro (h|h|h|h|h)<;>contradiction)
end
def Ca(x y:aP):Bool:=decide (x.b<y.b)||(decide (x.b=y.b)&&decide (x.c<y.c))
def Ea(m:aP):Prop:=(0<=m.b/\m.b<=1000000)/\0<=m.c/\m.c<=1000000
def YQ:Swo Ca:=⟨fun a b h=>by unfold Ca at*;simp at*;omega,fun a b c h k=>by unfold Ca at*;simp at*;omega⟩
def ald(x y:aP)(hx:Ea x)(hy:Ea y):∃n:Int,aK S 122 [AS x,AS y] (ri n)/\(decide (n<0)=Ca x y):=by
 obtain⟨⟨x1,x2⟩,x3,x4⟩:=hx;obtain⟨⟨y1,y2⟩,y3,y4⟩:=hy;have w1:IntKind.i64.wrap (x.b-y.b)=x.b-y.b:=uZ aa aa;have w2:IntKind.i64.wrap (x.c-y.c)=x.c-y.c:=uZ aa aa;cases hb:(x.b==y.b) with
 |true=>
  have e:x.b=y.b:=eq_of_beq hb;refine⟨x.c-y.c,?_,?_⟩
  .refine bk c122 ?_;simp only[go_sem,i122,bne,hb,w2]
  unfold Ca;rw[Ef];simp;omega
 |false=>
  have e:¬x.b=y.b:=by simpa using hb
  refine⟨x.b-y.b,?_,?_⟩
  .refine bk c122 ?_;simp only[go_sem,i122,bne,hb,w1]
  unfold Ca;rw[Ef];simp;omega
abbrev mP(o:g_):s_:=o.map aP.ps
def afZ(o:g_)(k:Nat)(v:aP):(mP o).set k v.ps=mP (o.set k v):=by simp[List.map_set]
def pL(o:g_):(mP o).length=o.length:=cM _
def Lc(id g ty:Nat)(es:g_)(aj:aB)(v:V)(ao:aB):Prop:=v=.tup []/\(∃ws:g_,ao id=(g,some (.arr ty 7 (mP ws)))/\ws.Perm es/\xt Ca ws 0 ws.length)/\Kept (· =id) aj ao
abbrev EG:V:=.one (.p (.fn 122 [] []))
def aps{al:Al}{aj:aB}{id g ty:Nat}{es:g_}(o:al.ok id=true)(hl:es.length<=1000000)(Fx:∀m∈es,Ea m)(hC:aj id=(g,some (.arr ty 7 (mP es)))):
  ∃v ao,jm S 179 [.one (.hsl id g 7 0 es.length),vi 0,vi es.length,EG] al aj v ao/\Lc id g ty es aj v ao:=by
 have scm:S.shared 122=false:=ah;refine nT c179 (iA rfl) ?_;have w0:IntKind.i64.wrap (0+1)=((0+1:Nat):Int):=ae;simp only[go_sem,i179];refine dy (fun k ak ao=>ak 0=.one (.hsl id g 7 0 es.length)/\ak 1=vi 0/\ak 2=vi es.length/\ak 3=EG/\ak 8=vi ((k+1:Nat):Int)/\ ∃zs:g_,ao id=(g,some (.arr ty 7 (mP zs)))/\zs.Perm es/\xt Ca zs 0 (k+1)/\Kept (· =id) aj ao) 0 es.length (bG _) ?_ ?_
 .simp only[go_sem];exact⟨rfl,es,hC,.refl _,fun p q x y _ h1 h2=>aa,Kept.refl _ _⟩
 rintro k ak bU hk ⟨h0,h1,h2,h3,h6,zs,hZ,hp,hs,dK⟩
 have mS:=hp.length_eq;by_cases aw:k+1<es.length
 .have aL:((k+1:Nat):Int)<(es.length:Int):=aa;obtain⟨x,hx⟩:=aM (ls:=zs) (k:=k+1) aa;have sx:Ea x:=Fx x (hp.mem_iff.1 (aV hx));simp only[go_sem,i179_l3,h2,h6,aL];refine dy (fun q ak ao=>ak 0=.one (.hsl id g 7 0 es.length)/\ak 1=vi 0/\ak 2=vi es.length/\ak 3=EG/\ak 8=vi ((k+1:Nat):Int)/\ak 9=vi ((k+1-q:Nat):Int)/\ ∃ws:g_,ao id=(g,some (.arr ty 7 (mP ws)))/\zL Ca zs ws x 0 (k+1) (k+1-q)/\Kept (· =id) aj ao) 0 (k+1) (bG _) ?_ ?_
  .simp only[go_sem,h0,h1,h2,h3,h6];exact⟨zs,hZ,zL.start (bG _) hx hs,dK⟩
  rintro q dz bh hq ⟨k0,k1,k2,k3,k6,k7,ws,hW,hI,Hv⟩
  have j5:ws.length=es.length:=hI.perm.length_eq.trans mS;have wk:IntKind.i64.wrap (((k+1:Nat):Int)+1)=((k+1+1:Nat):Int):=cS (n:=k+1) aa;by_cases hj0:k+1-q=0
  .have e7:¬((0:Int)<((k+1-q:Nat):Int)):=aa;simp only[go_sem,i179_l1,i179_r2,k0,k1,k2,k3,k6,k7,e7,wk];refine⟨aJ,aa,ws,hW,hI.perm.trans hp,hI.stop YQ (.inl hj0),Hv⟩
  obtain⟨j,hj⟩:∃j,k+1-q=j+1:=⟨k-q,aa⟩;have e7:((0:Int)<((j+1:Nat):Int)):=aa;obtain⟨y,hy⟩:=aM (ls:=ws) (k:=j) aa;have sy:Ea y:=Fx y ((hI.perm.trans hp).mem_iff.1 (aV hy));rw[hj] at hI k7;have wj:IntKind.i64.wrap (((j+1:Nat):Int)-1)=(j:Int):=by rw[zD aa];omega
  have tV:=HX hI.at';have DF:=HX hy;have j1:j+1<es.length:=by have:=hI.le;omega
  have j2:j<es.length:=aa;obtain⟨n,pl,hn⟩:=ald x y sx sy;cases j6:Ca x y with
  |false=>
   rw[j6] at hn;have y7:¬(n<0):=by simpa using hn
   simp only[go_sem,i179_l1,i179_r2,k0,k1,k2,k3,k6,k7,e7,wk,wj,hW,tV,DF,aP.ps,j1,j2,o,scm,Ps pl,y7];refine⟨aJ,aa,ws,rfl,hI.perm.trans hp,hI.stop YQ (.inr ⟨y,aa,hy,j6⟩),Hv⟩
  |true=>
   rw[j6] at hn;have y7:n<0:=by simpa using hn
   have xE:=hI.step YQ (bG _) hy j6;have hjj:¬(j+1=j):=aa;have l1:j+1<ws.length:=aa;have l2:j<ws.length:=aa;simp only[go_sem,i179_l1,i179_r2,k0,k1,k2,k3,k6,k7,e7,wj,hW,tV,DF,aP.ps,j1,j2,l1,hjj,o,scm,Ps pl,y7,qT,pL];have HD:k+1-(q+1)=j:=aa;refine⟨aJ,aJ,aa,by rw[HD],(ws.set (j+1) y).set j x,by rw[<- afZ,<- afZ];rfl,by rw[HD];exact xE,(Hv.dU rfl _).dU rfl _⟩
 have aL:¬(((k+1:Nat):Int)<(es.length:Int)):=aa;simp only[go_sem,i179_l3,h2,h6,aL];exact⟨rfl,⟨zs,hZ,hp,hs.mono (.inl aa)⟩,dK⟩
def arL{al:Al}{aj:aB}{id g ty:Nat}{es:g_}(o:al.ok id=true)(f1:al.fs.contains 179=true)(hl:es.length<=12)(Fx:∀m∈es,Ea m)(hC:aj id=(g,some (.arr ty 7 (mP es))))(lim:Int):
  ∃v ao,jm S 155 [.one (.hsl id g 7 0 es.length),vi 0,vi es.length,vi lim,EG] al aj v ao/\Lc id g ty es aj v ao:=by
 refine nT c155 (iA rfl) ?_;have w0:IntKind.i64.wrap ((es.length:Int)-0)=(es.length:Int):=by rw[Int.sub_zero];exact uZ aa aa
 have jF:(es.length:Int)<=12:=aa;simp only[go_sem,i155];refine sF ?_;simp only[go_sem,i155_l1,w0,jF,s179];refine Bt hC (by rfl) (.inr ⟨o,by rw[show S.sites 179=[179] by kernel_rfl];simp only[mH,pQ,f1,yg]⟩) (P:=Lc id g ty es aj) (fun rR h1 _=>aps h1 aa Fx hC) fun v ao hP=>?_;obtain⟨rfl,h2⟩:=hP;simp only[go_sem];exact⟨rfl,h2⟩
def auI{al:Al}{aj:aB}{id g ty:Nat}{es:g_}(o:al.ok id=true)(f1:(S.sites 155).all al.fs.contains=true)(hl:es.length<=12)(Fx:∀m∈es,Ea m)(hC:aj id=(g,some (.arr ty 7 (mP es)))):
  ∃v ao,jm S 121 [.one (.hsl id g 7 0 es.length),EG] al aj v ao/\Lc id g ty es aj v ao:=by
 obtain⟨k,pb⟩:=Tu es.length aa;have wu:IntKind.u64.wrap (es.length:Int)=(es.length:Int):=by
  have e:IntKind.u64.wrap (es.length:Int)=(es.length:Int)%18446744073709551616:=by unfold IntKind.wrap;rfl
  rw[e];omega
 refine nT c121 (iA rfl) ?_;have sbl:S.shared 118=false:=ah;simp only[go_sem,i121,wu,sbl,GY pb,s155];refine Bt hC (by rfl) (.inr ⟨o,f1⟩) (P:=Lc id g ty es aj) (fun rR h1 h2=>arL h1 (by rw[h2];kernel_rfl) hl Fx hC k) fun v ao hP=>?_;obtain⟨rfl,h2⟩:=hP;simp only[go_sem];exact⟨rfl,h2⟩
def apk(o:d_)(x:Int)(hl:o.length<=1000000):aK S 86 [.one (.p (.sl (iP o))),vi x] (ri (match (List.range o.length).find? (qd o x) with|some k=>(k:Int)|none=> -1)):=by
 refine bk c86 ?_;simp only[go_sem,i86];refine dy (fun k ak aj=>ak 0=.one (.p (.sl (iP o)))/\ak 1=vi x/\ak 7=vi o.length/\ak 8=vi k/\ ∀j,j<k->qd o x j=false) 0 o.length (bG _) ?_ ?_
 .simp only[go_sem];exact⟨rfl,fun j hj=>absurd hj (oN j)⟩
 rintro k ak aj hk ⟨h0,h1,h7,h8,hn⟩
 by_cases aw:k<o.length
 .have aL:((k:Int)<(o.length:Int)):=aa;obtain⟨y,hy⟩:=aM aw;have fV:=BO hy;have w1:=cS (n:=k) aa;have pG:qd o x k=(y==x):=by simp[qd,hy]
  cases hb:(y==x) with
  |true=>
   have wB:(x==y)=true:=by have:=dk.1 hb;simp[this]
   rw[hb] at pG;have hf:=Df (p:=qd o x) aw hn pG;simp only[go_sem,i86_l1,h0,h1,h7,h8,aL,fV,wB,hf]
  |false=>
   have wB:(x==y)=false:=by
    have:¬y=x:=by simpa using hb
    simp;exact fun h=>this h.symm
   rw[hb] at pG;have y7:∀j,j<k+1->qd o x j=false:=fun j hj=>by
    rcases nN.1 hj with h|rfl
    .exact hn j h
    exact pG
   simp only[go_sem,i86_l1,h0,h1,h7,h8,aw,aL,fV,wB,w1];exact y7
 have:k=o.length:=aa;subst this;have hf:=JD (p:=qd o x) hn;simp only[go_sem,i86_l1,i86_r2,h7,h8,eI,hf]
def aaQ(o:d_)(x:Int)(hl:o.length<=1000000):aK S 58 [.one (.p (.sl (iP o))),vi x] (rb (o.contains x)):=by
 have pi:=apk o x hl;refine bk c58 ?_;cases hm:o.contains x with
 |true=>
  have iX:x∈o:=by simpa using hm
  obtain⟨k,hk⟩:=iJ iX;have eH:=(aT.1 hk).1;cases hf:(List.range o.length).find? (qd o x) with
  |none=>have:=ID.1 hf k (gV.2 eH);simp[qd,hk] at this
  |some j=>rw[hf] at pi;have vz:(0:Int)<=(j:Int):=aa;simp only[go_sem,i58,s86,eT pi,vz]
 |false=>
  have iX:x∉o:=by simpa using hm
  cases hf:(List.range o.length).find? (qd o x) with
  |some j=>
   have h1:=Lz hf;unfold qd at h1;cases ho:o[j]? with
   |none=>rw[ho] at h1;cases h1
   |some y=>
    rw[ho] at h1;have:y=x:=by simpa using h1
    subst this;exact absurd (aV ho) iX
  |none=>rw[hf] at pi;have vz:¬(0:Int)<= -1:=ae;simp only[go_sem,i58,s86,eT pi,vz]
def meq(a b:aP):Bool:=(a.k==b.k)&&((a.a==b.a)&&((a.b==b.b)&&((a.c==b.c)&&((a.l==b.l)&&((a.o==b.o)&&(a.s==b.s))))))
def amj(x y:aP):wy [true,true,true,true,false,false,true] [.p (.int .i64 x.k),.p (.int .i64 x.a),.p (.int .i64 x.b),.p (.int .i64 x.c),.p (.bool x.l),.p (.bool x.o),.p (.int .i64 x.s)] [.p (.int .i64 y.k),.p (.int .i64 y.a),.p (.int .i64 y.b),.p (.int .i64 y.c),.p (.bool y.l),.p (.bool y.o),.p (.int .i64 y.s)]=some (meq x y):=by
 have e:∀a b:Int,vl true (.int .i64 a) (.int .i64 b)=some (a==b):=fun a b=>by simp[vl]
 have e2:∀a b:Bool,vl false (.bool a) (.bool b)=some (a==b):=fun a b=>by simp[vl]
 simp only[wy,meq,e,e2];cases (x.k==y.k)<;>cases (x.a==y.a)<;>cases (x.b==y.b)<;>cases (x.c==y.c)<;>cases (x.l==y.l)<;>cases (x.o==y.o)<;>cases (x.s==y.s)<;>rfl
def aqQ{a b:aP}(h:meq a b=true):a=b:=by cases a;cases b;unfold meq at h;simp only[cU,dk] at h;obtain⟨h1,h2,h3,h4,h5,h6,h7⟩:=h;subst h1 h2 h3 h4 h5 h6 h7;rfl
def apl(ms:g_)(x:aP)(hm:ms.length<=1000000):∃i:Int,(0<=i->x∈ms)/\aK S 154 [.one (.p (.sl (mP ms))),AS x] (ri i):=by
 have:∃r,(∃i:Int,(0<=i->x∈ms)/\r=ri i)/\aK S 154 [.one (.p (.sl (mP ms))),AS x] r:=by
  refine Et rfl c154 (iA rfl) ?_;simp only[go_sem,i154];refine dy (fun k ak aj=>ak 0=.one (.p (.sl (mP ms)))/\ak 3=.one (.aZ 9856000000 1 0)/\aj 9856000000=(1,some (.var [.p (.int .i64 x.k),.p (.int .i64 x.a),.p (.int .i64 x.b),.p (.int .i64 x.c),.p (.bool x.l),.p (.bool x.o),.p (.int .i64 x.s)]))/\ak 7=vi ms.length/\ak 8=vi k) 0 ms.length (bG _) ?_ ?_
  .simp only[go_sem];first|done|rfl|exact⟨rfl,rfl⟩|exact⟨rfl,rfl,rfl⟩
  rintro k ak aj hk ⟨h0,h3,hB,h7,h8⟩
  by_cases aw:k<ms.length
  .have aL:((k:Int)<(ms.length:Int)):=aa;obtain⟨m,mQ⟩:=aM aw;have Ay:=HX mQ;have w1:=cS (n:=k) aa;have he:=amj x m;cases hb:meq x m with
   |true=>rw[hb] at he;simp only[go_sem,i154_l1,h0,h3,hB,h7,h8,aL,Ay,aP.ps,he];exact⟨aJ,_,⟨_,fun _=>(aqQ hb)▸aV mQ,rfl⟩,rfl⟩
   |false=>rw[hb] at he;simp only[go_sem,i154_l1,h0,h3,hB,h7,h8,aw,aL,Ay,aP.ps,w1,he];exact aJ
  have:k=ms.length:=aa;subst this;simp only[go_sem,i154_l1,i154_r2,h7,h8,eI];exact⟨_,⟨_,fun h=>absurd h ae,rfl⟩,rfl⟩
 obtain⟨_,⟨i,h1,rfl⟩,h⟩:=this;exact⟨i,h1,h⟩
def aaR(ms:g_)(x:aP)(hm:ms.length<=1000000):∃b,(b=true->x∈ms)/\aK S 120 [.one (.p (.sl (mP ms))),AS x] (rb b):=by obtain⟨i,hi,pi⟩:=apl ms x hm;refine⟨decide (0<=i),fun h=>hi (qu h),?_⟩;refine bk c120 ?_;simp only[go_sem,i120,s154,eT pi]
abbrev fO:Nat:=44
abbrev edT:Nat:=3
def okM(k:Int)(av:Nat)(m:aP):Prop:=m.k=k/\m.a=(av:Int)/\m.l=false/\m.o=false/\m.s=0/\Ea m
def lI2{l:d_}(h:l.length=2):∃a b,l=[a,b]:=by
 match l,h with
 |[a,b],_=>exact⟨a,b,rfl⟩
def lI3{l:d_}(h:l.length=3):∃a b c,l=[a,b,c]:=by
 match l,h with
 |[a,b,c],_=>exact⟨a,b,c,rfl⟩
def KL(aj:aB)(v:V)(ao:aB):Prop:=v=.tup []/\ao=aj
def Wn{Q:dO}{al:Al}{ak:Env}{aj:aB}{os:h_}{d:w_}{f:Nat}{vs:e_}{P:V->aB->Prop}(se:(vs.map (jN aj)).flatten=[])(hh:al=.all\/(S.sites f).all al.fs.contains=true)
  (h:∀rR,rR.fs=S.sites f->∃v ao,jm S f vs rR aj v ao/\P v ao) (hK:∀v ao,P v ao->RN S al os Q (put ak d v) ao):gP S al (.sc f vs) d os Q ak aj:=by
 refine sR (P:=P) ?_ (h _ rfl) hK;rcases hh with rfl|h2
 .rfl
 refine holds_of ?_ h2;show al.fP (vs.map (jN aj)).flatten=true;rw[se];rfl
def apr{al:Al}{aj:aB}:∃v ao,jm S 179 [.one (.p .nils),vi 0,vi 0,EG] al aj v ao/\KL aj v ao:=by refine nT c179 (iA rfl) ?_;have w0:IntKind.i64.wrap 1=1:=ae;have hz:¬((1:Int)<0):=ae;simp only[go_sem,i179];refine sF ?_;simp only[go_sem,i179_l3,w0,hz];first|done|exact⟨rfl,rfl⟩|trace_state
def arK{al:Al}{aj:aB}(f1:al.fs.contains 179=true)(lim:Int):∃v ao,jm S 155 [.one (.p .nils),vi 0,vi 0,vi lim,EG] al aj v ao/\KL aj v ao:=by refine nT c155 (iA rfl) ?_;have w0:IntKind.i64.wrap (0-0)=0:=ae;have jF:((0:Int)<=12):=ae;simp only[go_sem,i155];refine sF ?_;simp only[go_sem,i155_l1,w0,jF,s179];refine Wn (by rfl) (.inr (by rw[show S.sites 179=[179] by kernel_rfl];simp only[mH,pQ,f1,yg])) (P:=KL aj) (fun rR _=>apr) fun v ao hP=>?_;obtain⟨rfl,h2⟩:=hP;simp only[go_sem];exact⟨rfl,h2⟩
def auH{al:Al}{aj:aB}(f1:(S.sites 155).all al.fs.contains=true):∃v ao,jm S 121 [.one (.p .nils),EG] al aj v ao/\KL aj v ao:=by obtain⟨k,pb⟩:=Tu 0 aa;have wu:IntKind.u64.wrap ((0:Nat):Int)=((0:Nat):Int):=ae;refine nT c121 (iA rfl) ?_;have sbl:S.shared 118=false:=ah;simp only[go_sem,i121,wu,sbl,GY pb,s155];refine Wn (by rfl) (.inr f1) (P:=KL aj) (fun rR h2=>arK (by rw[h2];kernel_rfl) k) fun v ao hP=>?_;obtain⟨rfl,h2⟩:=hP;simp only[go_sem];exact⟨rfl,h2⟩
def kK(kk:Int)(av:Nat)(D:a_)(ms:g_):Prop:=
 (kk≠8->∀b:Nat,av<b->D.length=2->(∃d∈D,d/2=av)->(∃d∈D,d/2=b)->(⟨kk,av,b,0,false,false,0⟩:aP)∈ms)/\
 (kk=8->∀b c:Nat,av<b->b<c->D.length=3->(∃d∈D,d/2=av)->(∃d∈D,d/2=b)->(∃d∈D,d/2=c)->(⟨kk,av,b,c,false,false,0⟩:aP)∈ms)
def kK.app(h:kK kk av D ms)(x:g_):kK kk av D (ms++x):=
 ⟨fun a b c d e f=>Gc _ (h.1 a b c d e f),fun a b c d e f g i j=>Gc _ (h.2 a b c d e f g i j)⟩
def avB(h:D.length=2){x y:Nat}(hx:x∈D)(hy:y∈D)(aI:x≠y):∀z∈D,z=x\/z=y:=by
 match D,h with
 |[a,b],_=>intro z hz;simp only[cD,fq,or_false] at hx hy hz;omega
def avi(h:D.length=3){x y w:Nat}(hx:x∈D)(hy:y∈D)(hw:w∈D)(n1:x≠y)(n2:x≠w)(n3:y≠w):∀z∈D,z=x\/z=y\/z=w:=by
 match D,h with
 |[a,b,c],_=>intro z hz;simp only[cD,fq,or_false] at hx hy hw hz;omega
def kK.low{d:Nat}(hd:d∈D)(h:d/2<av):kK kk av D ms:=by
 constructor
 .rintro _ b ef h2 ⟨x,hx,ex⟩ ⟨y,hy,ey⟩
  have:=avB h2 hx hy aa d hd;omega
 rintro _ b c ef xH h3 ⟨x,hx,ex⟩ ⟨y,hy,ey⟩ ⟨w,hw,ew⟩
 have:=avi h3 hx hy hw aa aa aa d hd;omega
def kK.vm(h:D.length=1\/3<D.length):kK kk av D ms:=
 ⟨fun _ b _ h2=>aa,fun _ b c _ _ h3=>aa⟩
def kK.two8(h:D.length=2)(h8:kk=8):kK kk av D ms:=
 ⟨fun h=>absurd h8 h,fun _ b c _ _ h3=>aa⟩
def kK.three(h:D.length=3)(h8:kk≠8):kK kk av D ms:=
 ⟨fun _ b _ h2=>aa,fun h=>absurd h h8⟩
def kK.two{y0 y1:Int}(h:D.length=2)(hp:[y0,y1].Perm (D.map fun d=>((d/2:Nat):Int)))(hs:xt tk [y0,y1] 0 2)(h8:kk≠8)(hm:(⟨kk,av,y1,0,false,false,0⟩:aP)∈ms):kK kk av D ms:=by
 refine⟨?_,fun h=>absurd h h8⟩;rintro _ b ef _ ⟨x,hx,ex⟩ ⟨y,hy,ey⟩
 have h1:((av:Nat):Int)∈[y0,y1]:=hp.mem_iff.2 (dh.2 ⟨x,hx,by rw[ex]⟩);have h2:((b:Nat):Int)∈[y0,y1]:=hp.mem_iff.2 (dh.2 ⟨y,hy,by rw[ey]⟩);have h3:=hs 0 1 y0 y1 aa aa aa rfl rfl;simp only[decide_eq_false_iff_not] at h3;simp only[cD,fq,or_false] at h1 h2;have:y1=(b:Int):=aa;rw[<- this];exact hm
def kK.thr{y0 y1 y2:Int}(h:D.length=3)(hp:[y0,y1,y2].Perm (D.map fun d=>((d/2:Nat):Int)))(hs:xt tk [y0,y1,y2] 0 3)(hm:(⟨kk,av,y1,y2,false,false,0⟩:aP)∈ms):kK kk av D ms:=by
 refine⟨fun _ b _ h2=>aa,?_⟩;rintro _ b c ef xH _ ⟨x,hx,ex⟩ ⟨y,hy,ey⟩ ⟨w,hw,ew⟩
 have h1:((av:Nat):Int)∈[y0,y1,y2]:=hp.mem_iff.2 (dh.2 ⟨x,hx,by rw[ex]⟩);have h2:((b:Nat):Int)∈[y0,y1,y2]:=hp.mem_iff.2 (dh.2 ⟨y,hy,by rw[ey]⟩);have h4:((c:Nat):Int)∈[y0,y1,y2]:=hp.mem_iff.2 (dh.2 ⟨w,hw,by rw[ew]⟩);have h3:=hs 0 1 y0 y1 aa aa aa rfl rfl;have h5:=hs 1 2 y1 y2 aa aa aa rfl rfl;simp only[decide_eq_false_iff_not] at h3 h5;simp only[cD,fq,or_false] at h1 h2 h4;have k1:y1=(b:Int):=aa;have k2:y2=(c:Int):=aa;rw[<- k1,<- k2];exact hm
def als(g:cX F ls)(kk:Int)(ha:av<ls.length):∃ms:g_,(ms.length<=2/\(∀m∈ms,okM kk av m)/\ ∀j,j<2->kK kk av (lU F ls (2*av+j)).cq ms)/\aK S 90 [.one (.p (eU F ls)),vi kk,vi av] (.one (aU fO 7 (mP ms))):=by
 have hlen:=g.len;have hN:nD ls<=1600:=by have:=xv ls ls.length;unfold nD;have:(aG ls).length<=ls.length:=xv ls ls.length;omega
 suffices h:∃r,(∃ms:g_,(ms.length<=2/\(∀m∈ms,okM kk av m)/\ ∀j,j<2->kK kk av (lU F ls (2*av+j)).cq ms)/\r=.one (aU fO 7 (mP ms)))/\aK S 90 [.one (.p (eU F ls)),vi kk,vi av] r by obtain⟨r,⟨ms,h1,rfl⟩,h2⟩:=h;exact⟨ms,h1,h2⟩
 refine Et rfl c90 (iA rfl) ?_;simp only[go_sem,i90];refine dy (fun k ak aj=>ak 0=.one (.p (eU F ls))/\ak 1=vi kk/\ak 2=vi av/\ak 14=vi k/\ ∃ms c,ms.length<=k/\(∀m∈ms,okM kk av m)/\(∀j,j<k->kK kk av (lU F ls (2*av+j)).cq ms)/\ak 7=.one c/\grown 5761280192 fO 7 (mP ms) (.one c) aj) 0 2 (bG _) ?_ ?_
 .simp only[go_sem];exact⟨rfl,[],.p .nils,bR _,fun m h=>(by cases h),fun j h=>absurd h (oN _),rfl,grown.nil⟩
 rintro k ak aj hk ⟨h0,h1,h2,nu,ms,c,yZ,au,hsd,h7,gm⟩
 by_cases aw:k<2
 .have aL:((k:Int)<2):=aa;obtain⟨j,Hs,nz,BC⟩:=V1 g (d:=2*av+k) aa;have WU:=aV nz;have Aw:=kE Hs;have Hp:=V6 nz;have m2:=u4 (a:=av) aa;have m3:=wrap_add (a:=2*av) (b:=k) aa;have w1:=cS (n:=k) aa;have hdl:2*av+k<(pK F ls).length:=by rw[XH];omega
  have hdd:=V4 WU;have an7:=V5 g.ok WU;obtain⟨_,_,hdm,_⟩:=V2 (F:=F) (ls:=ls) (d:=2*av+k) aa;have nxt_:∀Oj:g_,kK kk av (lU F ls (2*av+k)).cq (ms++Oj)->∀j,j<k+1->kK kk av (lU F ls (2*av+j)).cq (ms++Oj):=fun Oj h j hj=>by
   by_cases e:j=k
   .rw[e];exact h
   exact(hsd j aa).app Oj
  have H0:kK kk av (lU F ls (2*av+k)).cq ms->∀j,j<k+1->kK kk av (lU F ls (2*av+j)).cq ms:=fun h=>by have:=nxt_ [] (by rw[jA];exact h);rwa[jA] at this
  generalize hfe:lU F ls (2*av+k)=f at*;simp only[go_sem,i90_l4,h0,h2,nu,aL,m2,m3,Aw,Hp,Fc.ps];refine⟨aJ,?_⟩;obtain⟨g9,hg9⟩:∃g9,(aj 5760321024).fst+1=g9:=⟨_,rfl⟩;rw[hg9];refine dy (fun q dz bh=>dz 0=.one (.p (eU F ls))/\dz 1=vi kk/\dz 2=vi av/\dz 14=vi k/\dz 7=.one c/\grown 5761280192 fO 7 (mP ms) (.one c) bh/\dz 9=.one (.aZ 5760321024 g9 0)/\bh 5760321024=(g9,some (.var (f.ps.map .p)))/\dz 34=.one (.p (.sl (nP f.cq)))/\dz 35=vi f.cq.length/\dz 36=vi q/\(0<q->f.cq.length<=3)/\ ∃zs ce,zs.length=q/\zs=(f.cq.take q).map (fun d=>((d/2:Nat):Int))/\(∀z∈zs,0<=z/\z<=1000000)/\dz 10=.one ce/\grown 5760704256 edT 1 (iP zs) (.one ce) bh) 0 f.cq.length (bG _) ?_ ?_
  .have gm':grown 5761280192 fO 7 (mP ms) (.one c) (dU (dU aj 5760321024 (g9,some (Ob.var [C.p (PV.bool false),C.p PV.nils,C.p PV.nils,C.p PV.nils,C.p (PV.bool false)]))) 5760321024 (g9,some (Ob.var (f.ps.map .p)))):=gm.of_eq ((aX ae).trans (aX ae));simp only[go_sem,h0,h1,h2,h7,nu,Fc.ps] at gm' |-;refine⟨gm',rfl,fun h=>h.elim,[],.p .nils,rfl,rfl,fun z h=>(by cases h),rfl,grown.nil⟩
  rintro q dz bh hq ⟨p0,p1,p2,wW,p7,GZ,p9,b9,FW,Ou,Ov,h3,zs,ce,mS,Kq,hzb,DP,gz⟩
  simp only[Fc.ps,eh,lQ] at b9;by_cases tR:q<f.cq.length
  .have Xa:((q:Int)<(f.cq.length:Int)):=aa;obtain⟨d,hd⟩:=aM tR;have l5:=kE hd;have hdb:=hdd d (aV hd);have wq:=wrap_small (n:=d/2) aa;have w2:=cS (n:=q) aa;by_cases c1:d/2<av
   .have c1':(((d/2:Nat):Int)<(av:Int)):=aa;simp only[go_sem,i90_l1,i90_r3,p0,p1,p2,wW,p7,p9,DP,FW,Ou,Ov,b9,tR,Xa,l5,eO,fR,wq,c1',w1,aw];exact⟨ms,c,aa,au,H0 (.low (aV hd) c1),rfl,GZ⟩
   have c1':¬(((d/2:Nat):Int)<(av:Int)):=aa;by_cases c2:3<f.cq.length
   .have c2':((3:Int)<(f.cq.length:Int)):=aa;simp only[go_sem,i90_l1,i90_r3,p0,p1,p2,wW,p7,p9,DP,FW,Ou,Ov,b9,tR,Xa,l5,eO,fR,wq,c1',c2',w1,aw];exact⟨ms,c,aa,au,H0 (.vm (.inr c2)),rfl,GZ⟩
   have c2':¬((3:Int)<(f.cq.length:Int)):=aa;simp only[go_sem,i90_l1,p2,p9,DP,FW,Ou,Ov,b9,Xa,l5,eO,fR,wq,c1',c2'];refine vq (xs:=[[.int .i64 ((d/2:Nat):Int)]]) (gz.of_eq (aX ae)) (by simp only[fU,aO,if_true];rfl) (.inl rfl) (by simp only[xS,dC,fe];omega) fun c2 ig gz2 hb=>?_;have q9:=hb 5760321024 ae ae;have Ae:=GZ.of_eq ((hb 5761280192 ae ae).trans (aX ae));simp only[go_sem,b9] at q9;simp only[go_sem,p0,p1,p2,wW,p7,p9,FW,Ou,Ov,q9,w2,Fc.ps];refine⟨tR,Ae,fun _=>aa,zs++[((d/2:Nat):Int)],c2,by simp;omega,by rw[Kq,qq,hd];simp,fun z hz=>?_,rfl,?_⟩
   .rcases eK.1 hz with h|h
    .exact hzb z h
    have:=k9.1 h;omega
   rw[show iP (zs++[((d/2:Nat):Int)])=iP zs++[[.int .i64 ((d/2:Nat):Int)]] by simp[iP]];exact gz2
  have:q=f.cq.length:=aa;subst this;have aoa:0<f.cq.length:=LH hdm;have rm:=h3 aoa;rcases gz with ⟨e,_⟩|⟨_,gg,e,bz⟩
  .have hz0:(iP zs).length=0:=by rw[e];rfl
   rw[xS] at hz0;omega
  cases e;have sS:S.shared 119=true:=ah;simp only[go_sem,i90_l1,i90_r2,DP,Ou,Ov,eI,sS,xS];refine Bt bz (by rfl) (.inl rfl) (P:=F4 tk 5760704256 gg edT zs bh) (fun rR h1 h2=>YM h1 (by rw[h2];kernel_rfl) aa bz) fun v ig hP=>?_;obtain⟨rfl,⟨ws,bw,pw,sw⟩,kw⟩:=hP;have Ae:=GZ.of_eq (kw 5761280192 ae);have j5:=pw.length_eq;have pZ:ws.Perm (f.cq.map fun d=>((d/2:Nat):Int)):=by rw[Kq,lf] at pw;exact pw
  have hwb:∀z∈ws,0<=z/\z<=1000000:=fun z hz=>hzb z (pw.mem_iff.1 hz);rw[mS] at j5;clear pw hzb b9 bz;clear h3 tR hdd an7 WU hdm hq Kq;generalize uE:f.cq.length=n at*;have s120:S.shared 120=false:=ah;have AY:(((2:Nat):Int)==2)=true:=ae;have q12:(((1:Nat):Int)==2)=false:=ae;have q32:(((3:Nat):Int)==2)=false:=ae;have q13:(((1:Nat):Int)==3)=false:=ae;have uU:(((2:Nat):Int)==3)=false:=ae;have q33:(((3:Nat):Int)==3)=true:=ae;rcases(by omega:n=1\/n=2\/n=3) with rfl|rfl|rfl
  .simp only[go_sem,i90_r3,p0,p1,p2,wW,p7,DP,mS,q12,q13,w1,aw];exact⟨ms,c,aa,au,H0 (.vm (.inl uE)),rfl,Ae.of_eq ((aX ae).trans (aX ae))⟩
  .obtain⟨y0,y1,rfl⟩:=lI2 j5;by_cases h8:kk=8
   .have e8:(kk !=8)=false:=by rw[h8];rfl
    simp only[go_sem,i90_r3,p0,p1,p2,wW,p7,DP,mS,AY,uU,e8,w1,aw];exact⟨ms,c,aa,au,H0 (.two8 uE h8),rfl,Ae.of_eq ((aX ae).trans (aX ae))⟩
   have e8:(kk !=8)=true:=by simpa using h8
   simp only[go_sem,i90_r3,p1,p2,p7,DP,mS,AY,e8,bw];obtain⟨bb,xG,pcv⟩:=aaR ms ⟨kk,av,y1,0,false,false,0⟩ aa;have Yf:aK S 120 [.one (.p (.sl (mP ms))),.agg [.p (.int .i64 kk),.p (.int .i64 av),.p (.int .i64 y1),.p (.int .i64 0),.p (.bool false),.p (.bool false),.p (.int .i64 0)]] (rb bb):=pcv;obtain⟨r,snB,hr⟩:=Ae.F3;simp only[go_sem,s120,snB,dZ Yf];cases bb with
   |true=>simp only[go_sem,p0,p1,p2,wW,p7,w1,aw];exact⟨ms,c,aa,au,H0 (.two uE pZ sw h8 (xG rfl)),rfl,Ae.of_eq (by simp only[aO,Nat.reduceEqDiff,if_false])⟩
   |false=>
    simp only[go_sem,p7];refine vq (xs:=[aP.ps ⟨kk,av,y1,0,false,false,0⟩]) (Ae.of_eq (by simp only[aO,Nat.reduceEqDiff,if_false])) (by simp only[fU,aO,if_true];rfl) (.inl rfl) (by simp only[pL,dC,fe];omega) fun c2 jE Af lV=>?_;simp only[go_sem,p0,p1,p2,wW,w1,aw];refine⟨ms++[⟨kk,av,y1,0,false,false,0⟩],c2,by simp;omega,fun m hm=>?_,nxt_ _ (.two uE pZ sw h8 af),rfl,by rw[show mP (ms++[⟨kk,av,y1,0,false,false,0⟩])=mP ms++[aP.ps ⟨kk,av,y1,0,false,false,0⟩] by simp[mP]];exact Af⟩;rcases eK.1 hm with h|h
    .exact au m h
    have:=k9.1 h;subst this;exact⟨rfl,rfl,rfl,rfl,rfl,hwb y1 af,af⟩
  obtain⟨y0,y1,y2,rfl⟩:=lI3 j5;by_cases h8:kk=8
  .have e8:(kk==8)=true:=by rw[h8];rfl
   simp only[go_sem,i90_r3,p1,p2,p7,DP,mS,q32,q33,e8,bw];obtain⟨bb,xG,pcv⟩:=aaR ms ⟨kk,av,y1,y2,false,false,0⟩ aa;have Yf:aK S 120 [.one (.p (.sl (mP ms))),.agg [.p (.int .i64 kk),.p (.int .i64 av),.p (.int .i64 y1),.p (.int .i64 y2),.p (.bool false),.p (.bool false),.p (.int .i64 0)]] (rb bb):=pcv;obtain⟨r,snB,hr⟩:=Ae.F3;refine⟨aJ,?_⟩;simp only[go_sem,s120,snB,dZ Yf];cases bb with
   |true=>simp only[go_sem,p0,p1,p2,wW,p7,w1,aw];exact⟨ms,c,aa,au,H0 (.thr uE pZ sw (xG rfl)),rfl,Ae.of_eq (by simp only[aO,Nat.reduceEqDiff,if_false])⟩
   |false=>
    simp only[go_sem,p7];refine vq (xs:=[aP.ps ⟨kk,av,y1,y2,false,false,0⟩]) (Ae.of_eq (by simp only[aO,Nat.reduceEqDiff,if_false])) (by simp only[fU,aO,if_true];rfl) (.inl rfl) (by simp only[pL,dC,fe];omega) fun c2 jE Af lV=>?_;simp only[go_sem,p0,p1,p2,wW,w1,aw];refine⟨ms++[⟨kk,av,y1,y2,false,false,0⟩],c2,by simp;omega,fun m hm=>?_,nxt_ _ (.thr uE pZ sw af),rfl,by rw[show mP (ms++[⟨kk,av,y1,y2,false,false,0⟩])=mP ms++[aP.ps ⟨kk,av,y1,y2,false,false,0⟩] by simp[mP]];exact Af⟩;rcases eK.1 hm with h|h
    .exact au m h
    have:=k9.1 h;subst this;exact⟨rfl,rfl,rfl,rfl,rfl,hwb y1 af,hwb y2 af⟩
  have e8:(kk==8)=false:=by simpa using h8
  simp only[go_sem,i90_r3,p0,p1,p2,wW,p7,DP,mS,q32,q33,e8,w1,aw];exact⟨ms,c,aa,au,H0 (.three uE h8),rfl,Ae.of_eq ((aX ae).trans (aX ae))⟩
 have:k=2:=aa;subst this;have vz:¬(((2:Nat):Int)<2):=ae;have sS:S.shared 121=true:=ah;simp only[go_sem,i90_l4,i90_r5,h7,nu,vz,sS];rcases gm with ⟨e,e2⟩|⟨aI,gg,e2,bm⟩
 .cases e2;have:ms=[]:=by simpa [mP] using e
  subst this;refine Wn (by rfl) (.inl rfl) (P:=KL aj) (fun rR h2=>auH (by rw[h2];kernel_rfl)) fun v ig hP=>?_;obtain⟨rfl,rfl⟩:=hP;simp only[go_sem,h7];exact⟨_,⟨[],⟨af,(fun m h=>by cases h),hsd⟩,rfl⟩,rfl⟩
 cases e2;rw[pL] at h7 |-;refine Bt bm (by rfl) (.inl rfl) (P:=Lc 5761280192 gg fO ms aj) (fun rR h1 h2=>auI h1 (by rw[h2];kernel_rfl) aa (fun m hm=>(au m hm).2.2.2.2.2) bm) fun v ig hP=>?_;obtain⟨rfl,⟨ws,bw,pw,sw⟩,kw⟩:=hP;simp only[go_sem,h7];have j5:=pw.length_eq;refine⟨_,⟨ws,⟨aa,fun m hm=>au m (pw.mem_iff.1 hm),fun j hj=>⟨fun a b c d e f=>pw.mem_iff.2 ((hsd j hj).1 a b c d e f),fun a b c d e f g i j'=>pw.mem_iff.2 ((hsd j hj).2 a b c d e f g i j')⟩⟩,rfl⟩,?_⟩;rw[<- j5,<- pL ws];refine Ag (.inr ⟨fun e=>aI ?_,gg,rfl,bw⟩);have h0:(mP ws).length=0:=by rw[e];rfl
 rw[pL,j5] at h0;rw[Ej.1 h0];rfl
def Ce(k:Int)(n:Nat)(m:aP):Prop:= ∃a,a<n/\okM k a m
def X8{k:Int}{n a:Nat}{ns:g_}(h:∀m∈ms,Ce k n m)(h2:∀m∈ns,okM k a m)(ha:a<n):∀m∈ms++ns,Ce k n m:=fun m hm=>(eK.1 hm).elim (h m) fun h3=>⟨a,ha,h2 m h3⟩
def CP (F:Nat)(ls:ai)(kk:Int)(ms:g_):Prop:=(kk=1\/kk=4->∀a:Nat,a<ls.length->(⟨kk,a,0,0,false,false,0⟩:aP)∈ms)/\(kk=3\/kk=6\/kk=8->∀a,a<ls.length->∀j,j<2->kK kk a (lU F ls (2*a+j)).cq ms)
def kK.nU(h:kK kk av D ms)(x:g_):kK kk av D (x++ms):=
 ⟨fun a b c d e f=>El _ (h.1 a b c d e f),fun a b c d e f g i j=>El _ (h.2 a b c d e f g i j)⟩
section
variable {F:Nat} {ls:ai}
def akH(g:cX F ls)(aI:0<ls.length)(d2:(kk==2)=false)(d5:(kk==5)=false)(d7:(kk==7)=false)(d3:(kk==3)=false)(d6:(kk==6)=false)(d8:(kk==8)=false):∃ms:g_,(ms.length<=2*ls.length/\(∀m∈ms,Ce kk ls.length m)/\CP F ls kk ms)/\aK S 59 [.one (.p (eU F ls)),vi kk] (.one (aU fO 7 (mP ms))):=by
 have hlen:=g.len;have bY:(eo (pieces ls)).length=ls.length:=by rw[eo,cM,fK]
 have iY:(((ls.length:Nat):Int)==0)=false:=by rw[lS];omega
 suffices h:∃r,(∃ms:g_,(ms.length<=2*ls.length/\(∀m∈ms,Ce kk ls.length m)/\CP F ls kk ms)/\r=.one (aU fO 7 (mP ms)))/\aK S 59 [.one (.p (eU F ls)),vi kk] r by obtain⟨r,⟨ms,h1,rfl⟩,h2⟩:=h;exact⟨ms,h1,h2⟩
 refine Et rfl c59 (iA rfl) ?_;simp only[go_sem,i59,i59_r12,bY,iY];refine dy (fun k ak aj=>ak 0=.one (.p (eU F ls))/\ak 1=vi kk/\ak 41=vi ls.length/\ak 42=vi k/\ ∃ms c,ms.length<=2*k/\(∀m∈ms,Ce kk ls.length m)/\(∀a:Nat,a<k->(⟨kk,a,0,0,false,false,0⟩:aP)∈ms)/\ak 5=.one c/\grown 3776768320 fO 7 (mP ms) (.one c) aj) 0 ls.length (bG _) ?_ ?_
 .simp only[go_sem];exact⟨rfl,[],.p .nils,af,fun m h=>(by cases h),fun a h=>absurd h (oN _),rfl,grown.nil⟩
 rintro k ak aj hk ⟨h0,h1,Ah,ux,ms,c,yZ,au,Bw,h5,gm⟩
 by_cases aw:k<ls.length
 .have aL:((k:Int)<(ls.length:Int)):=aa;have w1:=cS (n:=k) aa;simp only[go_sem,i59_l10,i59_r9,h1,Ah,ux,h5,aL,d2,d5,d7,d3,d6,d8];refine vq (xs:=[aP.ps ⟨kk,k,0,0,false,false,0⟩]) (gm.of_eq (by simp only[aO,Nat.reduceEqDiff,if_false])) (by simp only[fU,aO,if_true];rfl) (.inl rfl) (by simp only[pL,dC,fe];omega) fun c2 jE Af lV=>?_;simp only[go_sem,h0,h1,Ah,ux,w1,aw];refine⟨ms++[⟨kk,k,0,0,false,false,0⟩],c2,by simp;omega,fun m hm=>?_,fun a ha=>?_,rfl,by rw[show mP (ms++[⟨kk,k,0,0,false,false,0⟩])=mP ms++[aP.ps ⟨kk,k,0,0,false,false,0⟩] by simp[mP]];exact Af⟩
  .rcases eK.1 hm with h|h
   .exact au m h
   have:=k9.1 h;subst this;exact⟨k,aw,rfl,rfl,rfl,rfl,rfl,by simp[Ea]⟩
  by_cases e:a=k
  .rw[e];simp
  exact Gc _ (Bw a aa)
 have:k=ls.length:=aa;subst this;simp only[go_sem,i59_l10,i59_r11,Ah,ux,h5,eI];exact⟨_,⟨ms,⟨yZ,au,fun _=>Bw,fun h=>by rcases h with rfl|rfl|rfl<;>simp_all⟩,rfl⟩,Ag gm⟩
def akG(g:cX F ls)(aI:0<ls.length)(wG:kk=3\/kk=6\/kk=8):∃ms:g_,(ms.length<=2*ls.length/\(∀m∈ms,Ce kk ls.length m)/\CP F ls kk ms)/\aK S 59 [.one (.p (eU F ls)),vi kk] (.one (aU fO 7 (mP ms))):=by
 have hlen:=g.len;have lo:S.lone 3778944256=false:=ah;have bY:(eo (pieces ls)).length=ls.length:=by rw[eo,cM,fK]
 have iY:(((ls.length:Nat):Int)==0)=false:=by rw[lS];omega
 suffices h:∃r,(∃ms:g_,(ms.length<=2*ls.length/\(∀m∈ms,Ce kk ls.length m)/\CP F ls kk ms)/\r=.one (aU fO 7 (mP ms)))/\aK S 59 [.one (.p (eU F ls)),vi kk] r by obtain⟨r,⟨ms,h1,rfl⟩,h2⟩:=h;exact⟨ms,h1,h2⟩
 have d2:(kk==2)=false:=by rw[lS];omega
 have d5:(kk==5)=false:=by rw[lS];omega
 have d7:(kk==7)=false:=by rw[lS];omega
 refine Et rfl c59 (iA rfl) ?_;simp only[go_sem,i59,i59_r12,bY,iY];refine dy (fun k ak aj=>ak 0=.one (.p (eU F ls))/\ak 1=vi kk/\ak 41=vi ls.length/\ak 42=vi k/\ ∃ms c,ms.length<=2*k/\(∀m∈ms,Ce kk ls.length m)/\(∀a,a<k->∀j,j<2->kK kk a (lU F ls (2*a+j)).cq ms)/\ak 5=.one c/\grown 3778944320 fO 7 (mP ms) (.one c) aj) 0 ls.length (bG _) ?_ ?_
 .simp only[go_sem];exact⟨rfl,[],.p .nils,af,fun m h=>(by cases h),fun a h=>absurd h (oN _),rfl,grown.nil⟩
 rintro k ak aj hk ⟨h0,h1,Ah,ux,ms,c,yZ,au,Bw,h5,gm⟩
 by_cases aw:k<ls.length
 .have aL:((k:Int)<(ls.length:Int)):=aa;have w1:=cS (n:=k) aa;obtain⟨ns,⟨wI,NC,NA⟩,pc⟩:=als g kk aw;have WB:∀a,a<k+1->∀j,j<2->kK kk a (lU F ls (2*a+j)).cq (ms++ns):=fun a ha j hj=>by
   by_cases e:a=k
   .rw[e];exact(NA j hj).nU ms
   exact(Bw a aa j hj).app ns
  cases d3:(kk==3) with
  |true=>simp only[go_sem,i59_l10,i59_r9,h0,h1,Ah,ux,h5,aL,d2,d5,d7,d3,s90];refine rX pc lo (.inl rfl) fun cc bU gl dw=>?_;have Dj:=gm.of_eq (dw 3778944320 ae);obtain⟨r,hx,hr⟩:=gl.elems;simp only[go_sem];refine vq (xs:=mP ns) Dj hx gl.iI (by simp only[pL];omega) fun c2 jE Af lV=>?_;simp only[go_sem,h0,h1,Ah,ux,w1,aw];exact⟨ms++ns,c2,by simp;omega,X8 au NC aw,WB,rfl,by rw[show mP (ms++ns)=mP ms++mP ns by simp[mP]];exact Af⟩
  |false=>
   cases d6:(kk==6) with
   |true=>simp only[go_sem,i59_l10,i59_r9,h0,h1,Ah,ux,h5,aL,d2,d5,d7,d3,d6,s90];refine rX pc lo (.inl rfl) fun cc bU gl dw=>?_;have Dj:=gm.of_eq (dw 3778944320 ae);obtain⟨r,hx,hr⟩:=gl.elems;simp only[go_sem];refine vq (xs:=mP ns) Dj hx gl.iI (by simp only[pL];omega) fun c2 jE Af lV=>?_;simp only[go_sem,h0,h1,Ah,ux,w1,aw];exact⟨ms++ns,c2,by simp;omega,X8 au NC aw,WB,rfl,by rw[show mP (ms++ns)=mP ms++mP ns by simp[mP]];exact Af⟩
   |false=>
    have d8:(kk==8)=true:=by
     rcases wG with rfl|rfl|rfl
     .cases d3
     .cases d6
     rfl
    simp only[go_sem,i59_l10,i59_r9,h0,h1,Ah,ux,h5,aL,d2,d5,d7,d3,d6,d8,s90];refine rX pc lo (.inl rfl) fun cc bU gl dw=>?_;have Dj:=gm.of_eq (dw 3778944320 ae);obtain⟨r,hx,hr⟩:=gl.elems;simp only[go_sem];refine vq (xs:=mP ns) Dj hx gl.iI (by simp only[pL];omega) fun c2 jE Af lV=>?_;simp only[go_sem,h0,h1,Ah,ux,w1,aw];exact⟨ms++ns,c2,by simp;omega,X8 au NC aw,WB,rfl,by rw[show mP (ms++ns)=mP ms++mP ns by simp[mP]];exact Af⟩
 have:k=ls.length:=aa;subst this;simp only[go_sem,i59_l10,i59_r11,Ah,ux,h5,eI];exact⟨_,⟨ms,⟨yZ,au,fun h=>aa,fun _=>Bw⟩,rfl⟩,Ag gm⟩
end
abbrev Bm:Nat:=24
def av6{a:PV}{id g z o l:Nat}:Cr [[.p a,.hsl id g z o l]]=none:=rfl
def al5{aj:aB}{s g ty sd td zd:Nat}{x:Int}{cd:C}{D:s_}(hb:aj s=(g,some (.ju ty 2 [[.p (.int .i64 x),cd]])))(gd:grown sd td zd D (.one cd) aj):
  ∃fr,fU aj (.one (.hsl s g 2 0 1))=some ([[.int .i64 x,.sl D]],[s],fr)/\qX aj fr/\(fr=[]\/fr=[sd]):=by
 obtain⟨r1,n1,a1,q1⟩:=gd.Sn;refine⟨r1,?_,a1,q1⟩;simp only[fU,hb];simp[collect,n1,Sr,PV.norm]
abbrev tW(k:Int):Prop:=k5 k
def qO(F:Nat)(ls:ai)(want:d_)(m:aP):Prop:=m.k∈want/\Ce m.k ls.length m/\ ∃M,nU F ls m.k m.a m.b m.c m.l m.o m.s=jy F M
section
variable {F:Nat} {ls:ai}
def akJ(g:cX F ls)(aI:0<ls.length)(h:tW kk):∃ms:g_,(ms.length<=2*ls.length/\(∀m∈ms,Ce kk ls.length m)/\CP F ls kk ms)/\aK S 59 [.one (.p (eU F ls)),vi kk] (.one (aU fO 7 (mP ms))):=by
 have n2:kk≠2:=by unfold tW k5 at h;omega
 have n5:kk≠5:=by unfold tW k5 at h;omega
 have n7:kk≠7:=by unfold tW k5 at h;omega
 by_cases hc:kk=3\/kk=6\/kk=8
 .exact akG g aI hc
 exact akH g aI (lS.2 n2) (lS.2 n5) (lS.2 n7) (lS.2 fun e=>hc (.inl e)) (lS.2 fun e=>hc (.inr (.inl e))) (lS.2 fun e=>hc (.inr (.inr e)))
def CS (F:Nat)(ls:ai)(want:d_)(n:Int)(ms:g_):Prop:=∀kk∈want,1<=kk->kk<=n->∃ns,CP F ls kk ns/\ ∀m∈ns,(∃M,nU F ls m.k m.a m.b m.c m.l m.o m.s=jy F M)->m∈ms
def CS.next{want:d_}{n:Int}(h:CS F ls want n ms)(h2:n+1∈want->∃ns,CP F ls (n+1) ns/\ ∀m∈ns,(∃M,nU F ls m.k m.a m.b m.c m.l m.o m.s=jy F M)->m∈ms):CS F ls want (n+1) ms:=fun kk hk h1 h3=>by
 by_cases e:kk=n+1
 .subst e;exact h2 hk
 exact h kk hk h1 aa
def CS.app{want:d_}{n:Int}(h:CS F ls want n ms)(m:aP):CS F ls want n (ms++[m]):=fun kk hk h1 h3=>by obtain⟨ns,a,b⟩:=h kk hk h1 h3;exact⟨ns,a,fun m hm hM=>Gc _ (b m hm hM)⟩
def as9{L:ai}{e:Int}(he:e≠0):jy F L≠nJ e:=fun h=>by unfold jy nJ at h;simp only[RV.tup.injEq,yh,RV.one.injEq,RC.p.injEq,PV.int.injEq,and_true,true_and] at h;exact he h.2.symm
def ah5(g:cX F ls)(aI:0<ls.length)(want:d_)(j5:want.length<=10)(hw:∀k∈want,tW k):∃ms cs,(ms.length<=8000/\(∀m∈ms,qO F ls want m)/\CS F ls want 10 ms)/\aK S 33 [.one (.p (eU F ls)),.one (.p (.sl (iP want)))] (.tup [.one (aU fO 7 (mP ms)),.one (aU Bm 2 cs)]):=by
 have hlen:=g.len;have mf:S.lone 2112448128=false:=ah;have ti:S.lone 2112640128=false:=ah
 suffices h:∃r,(∃ms cs,(ms.length<=8000/\(∀m∈ms,qO F ls want m)/\CS F ls want 10 ms)/\r=.tup [.one (aU fO 7 (mP ms)),.one (aU Bm 2 cs)])/\aK S 33 [.one (.p (eU F ls)),.one (.p (.sl (iP want)))] r by obtain⟨r,⟨ms,cs,h1,rfl⟩,h2⟩:=h;exact⟨ms,cs,h1,h2⟩
 refine Et rfl c33 (iA rfl) ?_;simp only[go_sem,i33];refine dy (fun k ak aj=>ak 0=.one (.p (eU F ls))/\ak 1=.one (.p (.sl (iP want)))/\ak 8=vi ((k+1:Nat):Int)/\ ∃ms cs c d,ms.length<=800*k/\cs.length<=800*k/\(∀m∈ms,qO F ls want m)/\CS F ls want ((k:Nat):Int) ms/\ak 6=.one c/\ak 7=.one d/\grown 2112768192 fO 7 (mP ms) (.one c) aj/\grown 2112768448 Bm 2 cs (.one d) aj) 0 10 (bG _) ?_ ?_
 .simp only[go_sem];exact⟨rfl,[],[],.p .nils,.p .nils,af,af,fun m h=>(by cases h),fun kk _ h1 h2=>absurd h2 aa,rfl,rfl,grown.nil,grown.nil⟩
 rintro k ak aj hk ⟨e0,e1,e8,ms,cs,c,d,yZ,dB,au,Am,e6,e7,gm,gc⟩
 by_cases aw:k<10
 .have aL:((k+1:Nat):Int)<=10:=aa;have w1:=cS (n:=k+1) aa;have ph:=aaQ want ((k+1:Nat):Int) aa;cases hc:want.contains ((k+1:Nat):Int) with
  |false=>rw[hc] at ph;simp only[go_sem,i33_l3,i33_r2,e0,e1,e6,e7,e8,aL,s58,dZ ph,w1];exact⟨aw,ms,cs,c,d,aa,aa,au,Am.next fun h=>absurd (Lw.2 h) (by rw[show((k:Nat):Int)+1=((k+1:Nat):Int) by omega,hc];decide),rfl,rfl,gm,gc⟩
  |true=>
   have oz:((k+1:Nat):Int)∈want:=by simpa using hc
   obtain⟨ns,⟨wI,NC,Bw⟩,pc⟩:=akJ g aI (hw _ oz);rw[hc] at ph;simp only[go_sem,i33_l3,e0,e1,e8,aL,s58,dZ ph,s59];refine rX pc mf (.inl rfl) fun cc bU gl dw=>?_;have Dj:=gm.of_eq (dw 2112768192 ae);have gc1:=gc.of_eq (dw 2112768448 ae);rcases gl with ⟨e,e2⟩|⟨_,gg,e,sT⟩
   .cases e2;simp only[go_sem];refine sF ?_;simp only[go_sem,i33_l1,i33_r2,e0,e1,e6,e7,e8,zz,w1];exact⟨aw,ms,cs,c,d,aa,aa,au,Am.next fun _=>⟨ns,Bw,fun m hm=>by rw[show ns=[] by simpa [mP] using e] at hm;cases hm⟩,rfl,rfl,Dj,gc1⟩
   cases e;rw[pL];simp only[go_sem];refine dy (fun j ak aj=>ak 0=.one (.p (eU F ls))/\ak 1=.one (.p (.sl (iP want)))/\ak 8=vi ((k+1:Nat):Int)/\ak 23=.one (.hsl 2112448128 gg 7 0 ns.length)/\ak 24=vi ns.length/\ak 25=vi j/\aj 2112448128=(gg,some (.arr fO 7 (mP ns)))/\ ∃ms cs c d,ms.length<=800*k+j/\cs.length<=800*k+j/\(∀m∈ms,qO F ls want m)/\CS F ls want ((k:Nat):Int) ms/\(∀i,i<j->∀m,ns[i]?=some m->(∃M,nU F ls m.k m.a m.b m.c m.l m.o m.s=jy F M)->m∈ms)/\ak 6=.one c/\ak 7=.one d/\grown 2112768192 fO 7 (mP ms) (.one c) aj/\grown 2112768448 Bm 2 cs (.one d) aj) 0 ns.length (bG _) ?_ ?_
   .simp only[go_sem,e0,e1,e6,e7,e8];exact⟨rfl,sT,ms,cs,c,d,aa,aa,au,Am,fun i h=>absurd h (oN _),rfl,rfl,Dj,gc1⟩
   clear gm gc Dj gc1 au yZ dB sT dw Am e0 e1 e6 e7 e8;rintro j ak aj hj ⟨q0,q1,q8,uU,rH,Ci,bL,ms,cs,c,d,yZ,dB,au,Am,jS,q6,q7,gm,gc⟩
   by_cases tP:j<ns.length
   .have Hx:((j:Int)<(ns.length:Int)):=aa;have w2:=cS (n:=j) aa;obtain⟨m,mQ⟩:=aM tP;have kr:=HX mQ;have Hy:=NC m (aV mQ);have hkm:m.k=((k+1:Nat):Int):=Hy.choose_spec.2.1;have aox:(mP ns).length=ns.length:=pL ns;have Ax:k5 m.k:=by rw[hkm];exact hw _ oz
    have pd:=do5 g Ax m.a m.b m.c m.l m.o m.s;rcases LS g Ax m.a m.b m.c m.l m.o m.s with ⟨e,he,ha⟩|⟨M,ha,_⟩
    .rw[ha] at pd;have Ap:(e==0)=false:=by simpa using he
     simp only[go_sem,i33_l1,q0,q1,q6,q7,q8,uU,rH,Ci,bL,tP,Hx,kr,aP.ps,s54,de pd afy,Ap,w2];exact⟨ms,cs,c,d,aa,aa,au,Am,fun i hi m' iX hM=>by
      by_cases ei:i=j
      .rw[ei,mQ] at iX;cases iX;obtain⟨M,hM⟩:=hM;rw[ha] at hM;exact absurd hM.symm (as9 he)
      exact jS i aa m' iX hM,rfl,rfl,gm.of_eq (by simp only[aO,Nat.reduceEqDiff,if_false]),gc.of_eq (by simp only[aO,Nat.reduceEqDiff,if_false])⟩
    have QE:qO F ls want m:=⟨by rw[hkm];exact oz,by rw[hkm];exact Hy,M,ha⟩;rw[ha] at pd;simp only[go_sem,i33_l1,q0,uU,rH,Ci,bL,tP,Hx,kr,aP.ps,s54];refine Wk pd ti fun cx bh gx bj=>?_;have b10:=bj 2112576128 ae;simp only[go_sem] at b10;have bL2:=(bj 2112448128 ae).trans ((aX ae).trans ((aX ae).trans bL));have GZ:=gm.of_eq ((bj 2112768192 ae).trans (by simp only[aO,Nat.reduceEqDiff,if_false]));have uw:=gc.of_eq ((bj 2112768448 ae).trans (by simp only[aO,Nat.reduceEqDiff,if_false]));have Kc:∀m'∈ms++[m],qO F ls want m':=fun m' h=>(eK.1 h).elim (au m') fun h=>(k9.1 h)▸QE;have ad3:∀i,i<j+1->∀m',ns[i]?=some m'->(∃M,nU F ls m'.k m'.a m'.b m'.c m'.l m'.o m'.s=jy F M)->m'∈ms++[m]:=fun i hi m' iX hM=>by
     by_cases ei:i=j
     .rw[ei,mQ] at iX;cases iX;simp
     exact Gc _ (jS i aa m' iX hM)
    have adS:=Am.app m;have xM:mP (ms++[m])=mP ms++[aP.ps m]:=by simp[mP]
    rcases gx with ⟨eM,e2⟩|⟨aoD,g2,e2,hbx⟩
    .cases e2;simp only[go_sem,b10,q6];refine Bn (site:=2112768192) (id:=2112768192) (bytes:=48) (xs:=[aP.ps m]) (rd:=[2112768128]) (GZ.of_eq (by simp only[aO,Nat.reduceEqDiff,if_false])) (by simp[fU,aO,aP.ps]) (.inl rfl) (by simp only[pL,dC,fe];omega) fun c' ig r1 u1 ji gk jV=>?_;have LY:=gk 2112640384 ae ae;simp only[go_sem] at LY;simp only[go_sem,LY,q7];have JL:=uw.of_eq ((gk 2112768448 ae ae).trans (by simp only[aO,Nat.reduceEqDiff,if_false]:_=bh 2112768448));refine Bn (site:=2112768448) (id:=2112768448) (bytes:=32) (xs:=[[.int .i64 F,.sl []]]) (rd:=[2112768384]) (JL.of_eq (aX ae)) (by simp[fU,aO]) (.inl rfl) (by simp only[dC,fe];omega) fun d' jE r2 u2 vx lV wJ=>?_
     have L3:=(lV 2112448128 ae ae).trans ((aX ae).trans (gk 2112448128 ae ae));simp only[aO,Nat.reduceEqDiff,if_false] at L3;have bL5:=L3.trans bL2;simp only[go_sem,q0,q1,q6,q7,q8,uU,rH,Ci,bL5,w2,tP];refine⟨?_,ms++[m],_,c',d',by simp;omega,by simp;omega,Kc,adS,ad3,rfl,rfl,?_,vx⟩
     .rcases jV with ⟨rfl,rfl⟩|⟨rfl,rfl⟩|⟨rfl,rfl⟩<;>rcases wJ with ⟨rfl,rfl⟩|⟨rfl,rfl⟩|⟨rfl,rfl⟩<;>kernel_rfl
     rw[xM];exact ji.of_eq ((lV 2112768192 ae ae).trans (aX ae))
    cases e2;simp only[go_sem,b10,q6];refine Bn (site:=2112768192) (id:=2112768192) (bytes:=48) (xs:=[aP.ps m]) (rd:=[2112768128]) (GZ.of_eq (by simp only[aO,Nat.reduceEqDiff,if_false])) (by simp[fU,aO,aP.ps]) (.inl rfl) (by simp only[pL,dC,fe];omega) fun c' ig r1 u1 ji gk jV=>?_;have LY:=gk 2112640384 ae ae;simp only[go_sem] at LY;simp only[go_sem,LY,q7];have bx3:=(gk (2112640128+1) ae ae);simp only[Nat.reduceAdd,aO,Nat.reduceEqDiff,if_false] at bx3 hbx;have hx3:=bx3.trans hbx;have gx3:grown (2112640128+1) jL 6 (dG M) (.one (.hsl (2112640128+1) g2 6 0 M.length)) ig:=.inr ⟨aoD,g2,by rw[dG,cM],hx3⟩
    obtain⟨fr,hx,Bx,Aq⟩:=al5 (aj:=dU ig 2112768384 ((ig 2112768384).1+1,some (.ju Bm 2 [[.p (.int .i64 F),.hsl (2112640128+1) g2 6 0 M.length]]))) (s:=2112768384) A7 (gx3.of_eq (aX ae));have JL:=uw.of_eq ((gk 2112768448 ae ae).trans (by simp only[aO,Nat.reduceEqDiff,if_false]:_=bh 2112768448));have nf:∀i,i≠2112640128+1->i∉fr:=fun i a h=>by
     rcases Aq with rfl|rfl
     .cases h
     exact a (k9.1 h)
    refine alG (site:=2112768448) (id:=2112768448) (bytes:=32) (JL.of_eq (aX ae)) hx Bx (nf _ ae) (nf _ ae) (.inl rfl) (by simp only[dC,fe];omega) fun d' jE r2 u2 vx lV wJ=>?_;have L3:=(lV 2112448128 ae ae (nf _ ae)).trans ((aX ae).trans (gk 2112448128 ae ae));simp only[aO,Nat.reduceEqDiff,if_false] at L3;have bL5:=L3.trans bL2;simp only[go_sem,q0,q1,q6,q7,q8,uU,rH,Ci,bL5,w2,tP];refine⟨?_,ms++[m],_,c',d',by simp;omega,by simp;omega,Kc,adS,ad3,rfl,rfl,?_,vx⟩
    .rcases Aq with rfl|rfl<;>rcases jV with ⟨rfl,rfl⟩|⟨rfl,rfl⟩|⟨rfl,rfl⟩<;>rcases wJ with ⟨rfl,rfl⟩|⟨rfl,rfl⟩|⟨rfl,rfl⟩<;>kernel_rfl
    rw[xM];exact ji.of_eq ((lV 2112768192 ae ae (nf _ ae)).trans (aX ae))
   have:j=ns.length:=aa;subst this;simp only[go_sem,i33_l1,i33_r2,q0,q1,q6,q7,q8,rH,Ci,eI,w1];exact⟨aw,ms,cs,c,d,aa,aa,au,Am.next fun _=>⟨ns,Bw,fun m hm hM=>by obtain⟨i,hi⟩:=iJ hm;exact jS i (aT.1 hi).1 m hi hM⟩,rfl,rfl,gm,gc⟩
 have:k=10:=aa;subst this;have jZ:¬(((10+1:Nat):Int)<=10):=ae;simp only[go_sem,i33_l3,i33_r4,e6,e7,e8,jZ];exact⟨_,⟨ms,cs,⟨yZ,au,Am⟩,rfl⟩,Qh ae gm gc⟩
def auE(g:cX F ls)(aI:0<ls.length)(want:d_)(j5:want.length<=10)(hw:∀k∈want,tW k):∃ms cs,(ms.length<=8000/\ ∀m∈ms,qO F ls want m)/\aK S 33 [.one (.p (eU F ls)),.one (.p (.sl (iP want)))] (.tup [.one (aU fO 7 (mP ms)),.one (aU Bm 2 cs)]):=by obtain⟨ms,cs,⟨h1,h2,_⟩,h⟩:=ah5 g aI want j5 hw;exact⟨ms,cs,⟨h1,h2⟩,h⟩
end
def Xw{l:c_}{drop:Nat->Pc->Bool}{i:Nat}{p:Pc}(hp:l[i]?=some p)(hd:drop i p=true):(qK l drop).length<l.length:=by
 have hi:=(aT.1 hp).1;have key:∀k,k<=l.length->i<k->(uL l drop k).length<k:=by
  intro k
  induction k with
  |zero=>intro _ h;exact absurd h (oN i)
  |succ k ih=>
   intro hk hik;by_cases e:i=k
   .subst e;rw[BS hp hd];have:=HR l drop i;omega
   obtain⟨q,hq⟩:=aM (ls:=l) (k:=k) aa;have:=ih aa aa;cases yQ:drop k q
   .rw[Kv hq yQ,fS];simp only[dC,fe];omega
   rw[BS hq yQ];omega
 exact key l.length (bR _) hi
def acX{q:Let->Bool}(l:c_):aq q (eL l)=l.countP fun p=>q p.l:=by
 have e:aq q (l.map Pc.l)=l.countP fun p=>q p.l:=by show List.countP _ (List.map _ _)=_;rw[Ba];rfl
 rw[<- e];have hf:(sQ l).getD 0<=l.length:=by
  cases h:sQ l with
  |none=>exact bG _
  |some f=>have:=IH h;simp at this;simp only[nO];omega
 unfold eL;rw[Sd hf];show List.countP _ _=List.countP _ _;rw[kZ,xf,Nat.add_comm,<- xf,<- kZ,mJ]
section
variable {F:Nat} {ls:ai}
def aq4{k:Int}(hk:k=1\/k=4\/k=6){a b c:Nat}{l o:Bool}{sg:Int}(ha:a<ls.length){L:c_}(h:qk F ls k a b c l o sg=some L):L.length<ls.length:=by
 obtain⟨p,hp⟩:=aM (ls:=pieces ls) (k:=a) (by rw[fK];exact ha);have bY:=fK ls;have hg:(pieces ls).getD a ⟨lX,false⟩=p:=by simp[dA,hp]
 rcases hk with rfl|rfl|rfl
 .have h:ug ls a=some L:=h;unfold ug at h;simp only at h;split at h
  .cases h;show(List.map _ _).length<_;rw[cM,<- bY];exact Xw hp af
  cases h
 .have h:uM ls a=some L:=h;unfold uM at h;simp only at h;rw[hg] at h;split at h
  .rename_i hc;cases h;show(List.map _ _).length<_;rw[cM,<- bY];simp only[cU] at hc;exact Xw hp (by unfold vk;rw[hc.1];simp)
  cases h
 have h:uS F ls a b=some L:=h;unfold uS at h;rw[je hp] at h;split at h
 .rename_i hc;cases h;show(List.map _ _).length<_;rw[cM,<- bY];have jT:(p.l.kind==2)=true:=by
   simp only[cU,vT] at hc;unfold jt at hc;rw[je hp] at hc;simp only[cU] at hc;rcases hc.1 with h|h
   .exact h.1.1
   exact h.1.1
  exact Xw hp (by unfold vk;rw[jT];simp)
 cases h
def alA(g:cX F ls){want:d_}{m:aP}(hm:qO F ls want m)(hk:m.k=1\/m.k=4\/m.k=6):∃M,nU F ls m.k m.a m.b m.c m.l m.o m.s=jy F M/\bQ F M=0/\M.length<ls.length/\aq Let.aE M<=aq Let.aE ls/\aq Let.aA M<=aq Let.aA ls:=by
 obtain⟨_,⟨av,ha,_,ea,_⟩,M0,e0⟩:=hm;have Ax:k5 m.k:=by unfold k5;omega
 rcases LS g Ax m.a m.b m.c m.l m.o m.s with ⟨e,he,h⟩|⟨M,h,hc,_,L,hL,rfl⟩
 .rw[e0] at h;unfold jy nJ at h;simp only[RV.tup.injEq,yh,RV.one.injEq,RC.p.injEq,PV.int.injEq,and_true,true_and] at h;exact absurd h.2.symm he
 rw[ea,pP] at hL;have bY:=fK ls;have aw:=aq4 hk ha hL;have hb:m.b.toNat<ls.length\/(m.k≠3/\m.k≠8):=.inr ⟨aa,aa⟩;have uz:m.c.toNat<ls.length\/m.k≠8:=.inr aa;have kC:HS (fun p=>p.l.aA):=fun p p' h=>by show(p.l.kind==2)=(p'.l.kind==2);rw[h]
 have kP:HS (fun p=>p.l.aE):=fun p p' h=>by show(p.l.kind==1)=(p'.l.kind==1);rw[h]
 have pq:∀q:Let->Bool,(pieces ls).countP (fun p=>q p.l)=aq q ls:=fun q=>by rw[<- Ry (ls:=ls) q];show _=List.countP _ (List.map _ _);rw[Ba];rfl
 have c1:=Q8 g kP Ax ha hb uz hL;have c2:=Q8 g kC Ax ha hb uz hL;rw[pq] at c1 c2;exact⟨_,h,hc,by rw[PX];exact aw,by rw[acX];exact c1,by rw[acX];exact c2⟩
end
section
variable {F:Nat}
def akI{k:Int}(hk:(k==2)=false):aK S 59 [.one (.p (eU F [])),vi k] (.one (aU fO 7 [])):=by have bY:(eo (pieces [])).length=0:=rfl;have h7:(((0:Nat):Int)==0)=true:=ae;refine bk c59 ?_;simp only[go_sem,i59,i59_r12,bY,h7,hk];refine sF ?_;simp only[go_sem,i59_l10,i59_r11,zz];rfl
def auC(want:d_)(j5:want.length<=10)(hw:∀k∈want,tW k):aK S 33 [.one (.p (eU F [])),.one (.p (.sl (iP want)))] (.tup [.one (aU fO 7 []),.one (aU Bm 2 [])]):=by
 have mf:S.lone 2112448128=false:=ah;refine bk c33 ?_;simp only[go_sem,i33];refine dy (fun k ak aj=>ak 0=.one (.p (eU F []))/\ak 1=.one (.p (.sl (iP want)))/\ak 8=vi ((k+1:Nat):Int)/\ak 6=.one (.p .nils)/\ak 7=.one (.p .nils)) 0 10 (bG _) ?_ ?_
 .simp only[go_sem];rfl
 rintro k ak aj hk ⟨e0,e1,e8,e6,e7⟩
 by_cases aw:k<10
 .have aL:((k+1:Nat):Int)<=10:=aa;have w1:=cS (n:=k+1) aa;have ph:=aaQ want ((k+1:Nat):Int) aa;cases hc:want.contains ((k+1:Nat):Int) with
  |false=>rw[hc] at ph;simp only[go_sem,i33_l3,i33_r2,e0,e1,e6,e7,e8,aL,s58,dZ ph,w1];exact aw
  |true=>
   have oz:((k+1:Nat):Int)∈want:=by simpa using hc
   have pc:=akI (F:=F) (k:=((k+1:Nat):Int)) (lS.2 (by have:=hw _ oz;unfold tW k5 at this;omega));rw[hc] at ph;simp only[go_sem,i33_l3,e0,e1,e8,aL,s58,dZ ph,s59];refine rX pc mf (.inl rfl) fun cc bU gl dw=>?_;rcases gl with ⟨e,e2⟩|⟨h,_⟩
   .cases e2;simp only[go_sem];refine sF ?_;simp only[go_sem,i33_l1,i33_r2,e0,e1,e6,e7,e8,zz,w1];exact aw
   exact absurd rfl h
 have:k=10:=aa;subst this;have jZ:¬(((10+1:Nat):Int)<=10):=ae;simp only[go_sem,i33_l3,i33_r4,e6,e7,e8,jZ];rfl
end
section
variable {F:Nat} {ls:ai}
def aax(h:bQ (F:Int) []=0):F<=40:=by
 unfold bQ at h;rw[ay ae] at h;by_cases hf:(F:Int)<0\/40<(F:Int)
 .rw[aD hf] at h;cases h
 omega
def auD(h:bQ (F:Int) ls=0)(want:d_)(j5:want.length<=10)(hw:∀k∈want,tW k):∃ms cs,(ms.length<=8000/\ ∀m∈ms,qO F ls want m)/\aK S 33 [.one (.p (eU F ls)),.one (.p (.sl (iP want)))] (.tup [.one (aU fO 7 (mP ms)),.one (aU Bm 2 cs)]):=by
 by_cases aI:ls=[]
 .subst aI;exact⟨[],[],⟨af,fun m h=>by cases h⟩,auC want j5 hw⟩
 obtain⟨G,e,g⟩:=rj h aI;have:F=G:=aa;subst this;exact auE g (jl.2 aI) want j5 hw
def arn(h:bQ (F:Int) ls=0):aK S 32 [dY F ls] (uV (eU F ls) (.int .i64 0)):=by
 by_cases aI:ls=[]
 .subst aI;exact X9 (aax h)
 obtain⟨G,e,g⟩:=rj h aI;have:F=G:=aa;subst this;exact Ya g
def SU(h:bQ (F:Int) ls=0)(want:d_)(j5:want.length<=10)(hw:∀k∈want,tW k):∃ms,(ms.length<=8000/\ ∀m∈ms,qO F ls want m)/\aK S 10 [dY F ls,.one (.p (.sl (iP want)))] (.tup [.one (aU fO 7 (mP ms)),.one (.p (.int .i64 0))]):=by obtain⟨ms,cs,hm,ps⟩:=auD h want j5 hw;have po:=arn h;have lo:S.lone 640256128=false:=ah;refine⟨ms,hm,?_⟩;refine bk c10 ?_;simp only[go_sem,i10,s32,de po iB,s33];refine adu ps lo fun c d bU gc gd hb=>?_;simp only[go_sem];exact yE gc
def ai1(g:cX F ls)(want:d_)(j5:want.length<=10)(hw:∀k∈want,tW k):∃ms,(ms.length<=8000/\(∀m∈ms,qO F ls want m)/\CS F ls want 10 ms)/\aK S 10 [dY F ls,.one (.p (.sl (iP want)))] (.tup [.one (aU fO 7 (mP ms)),.one (.p (.int .i64 0))]):=by obtain⟨ms,cs,hm,ps⟩:=ah5 g (jl.2 g.ne) want j5 hw;have po:=Ya g;have lo:S.lone 640256128=false:=ah;refine⟨ms,hm,?_⟩;refine bk c10 ?_;simp only[go_sem,i10,s32,de po iB,s33];refine adu ps lo fun c d bU gc gd hb=>?_;simp only[go_sem];exact yE gc
abbrev vM:d_:=[1,4,6]
def R6:∀k∈vM,tW k:=by intro k h;simp only[cD,fq,or_false] at h;unfold tW k5;omega
abbrev K8(m:aP)(b:Bool):RV:=.tup [.agg (m.ps.map .p),.one (.p (.bool b))]
def Sg(ms:g_):((mP ms).all fun e=>e.all PV.scalar)=true:=by rw[gO];intro e he;obtain⟨i,_,rfl⟩:=dh.1 he;rfl
abbrev SK:aP:=⟨0,0,0,0,false,false,0⟩
def ahh(h:bQ (F:Int) ls=0):(∃m,qO F ls vM m/\(¬aK S 10 [dY F ls,.one (.p (.sl (iP vM)))] (.tup [.one (aU fO 7 []),.one (.p (.int .i64 0))]))/\aK S 25 [dY F ls] (K8 m true))\/(aK S 10 [dY F ls,.one (.p (.sl (iP vM)))] (.tup [.one (aU fO 7 []),.one (.p (.int .i64 0))])/\aK S 25 [dY F ls] (K8 SK false)):=by
 obtain⟨ms,⟨_,hm⟩,ps⟩:=SU h vM ae R6;have ps':aK S 10 [dY F ls,.one (.p (.sl [[.int .i64 1],[.int .i64 4],[.int .i64 6]]))] (.tup [.one (aU fO 7 (mP ms)),.one (.p (.int .i64 0))]):=ps;have lo:S.lone 1600064128=false:=ah;cases ms with
 |nil=>
  refine .inr ⟨ps,?_⟩;refine bk c25 ?_;simp only[go_sem,i25,s10];refine adt ps' lo (Sg _) rfl fun c bU gc hb=>?_;have b2:=hb 1600000064 ae;simp only[go_sem] at b2;rcases gc with ⟨_,e2⟩|⟨h,_⟩
  .cases e2;have MN:(((0:Nat):Int)==0)=true:=ae;simp only[go_sem,MN,b2];rfl
  exact absurd rfl h
 |cons m r=>
  refine .inl ⟨m,hm m af,(fun h=>by have:=ps.zZ h;simp[aU] at this),?_⟩
  refine bk c25 ?_;simp only[go_sem,i25,s10];refine adt ps' lo (Sg _) rfl fun c bU gc hb=>?_;have b2:=hb 1600000064 ae;simp only[go_sem] at b2;rcases gc with ⟨h,_⟩|⟨_,gg,e2,hC⟩
  .cases h
  cases e2;have hl:(mP (m::r)).length=r.length+1:=by simp[mP]
  have MN:(((r.length+1:Nat):Int)==0)=false:=by rw[lS];omega
  have aw:0<r.length+1:=aa;have kr:(mP (m::r))[0]?=some m.ps:=rfl;rw[hl];generalize mP (m::r)=es at*;simp only[go_sem,MN,b2,hC,kr,aw,aP.ps];rfl
end
def anq{Q:dO}{ak:Env}{aj:aB}{os:h_}{d:w_}{f:Nat}{vs:e_}{s t1 z1 t2 z2:Nat}{rd:a_}{es fs:s_}{x:PV}(hp:aK S f vs (.tup [.agg [.p x,aU t1 z1 es],.one (aU t2 z2 fs)]))(eF:S.lone s=false)(hx:x.scalar=true)
  (a1:(es.all fun e=>e.all PV.scalar)=true) (a2:(fs.all fun e=>e.all PV.scalar)=true)
  (hK:∀(c e:C) ao,grown (s+1) t1 z1 es (.one c) ao->grown (s+2) t2 z2 fs (.one e) ao->(∀i,i≠s+1->i≠s+2->ao i=aj i)->RN S .all os Q (put ak d (.tup [.agg [.p x,c],.one e])) ao):gP S .all (.pc f vs rd s) d os Q ak aj:=by
 obtain⟨h1,h2,_⟩:=sk (aj:=aj) (s:=s+1) (ty:=t1) (z:=z1) (es:=es);have e0:∀(b b':aB) (k:Nat) (r:RC),b' k=b k->dq b k r=dq b' k r:=by
  intro b b' k r h;cases r with
  |p v=>rfl
  |own ty sz es=>simp only[dq,h]
 have e2:dq aj (s+2) (aU t2 z2 fs)=dq (app (dq aj (s+1) (aU t1 z1 es)).2 aj) (s+2) (aU t2 z2 fs):=e0 _ _ _ _ (h2 (s+2) aa);obtain⟨k1,k2,_⟩:=sk (aj:=app (dq aj (s+1) (aU t1 z1 es)).2 aj) (s:=s+2) (ty:=t2) (z:=z2) (es:=fs);rw[<- e2] at k1 k2;have Hh:∀(a b:k_) (c:aB),app (a++b) c=app b (app a c):=by
  intro a
  induction a with
  |nil=>intro b c;rfl
  |cons x a ih=>intro b c;exact ih b _
 have gR:(RV.tup [.agg [.p x,aU t1 z1 es],.one (aU t2 z2 fs)]).alone=true:=by
  have a:=qY (ty:=t1) (z:=z1) a1;have b:=qY (ty:=t2) (z:=z2) a2;have Kp:(RV.one (.p x)).alone=true:=by show(x.scalar&&true)=true;rw[hx];rfl
  skip
  simp only[RV.alone,gQ,ir,mH,pQ,vS] at a b Kp;simp only[RV.alone,gQ,ml,ir,mW,fZ,jA,mH,pQ,vS,a,b,Kp]
 refine(de (v:=.tup [.agg [.p x,(dq aj (s+1) (aU t1 z1 es)).1],.one (dq aj (s+2) (aU t2 z2 fs)).1]) (u:=(dq aj (s+1) (aU t1 z1 es)).2++(dq aj (s+2) (aU t2 z2 fs)).2) hp ?_).2 (hK _ _ _ ?_ ?_ ?_)
 .rw[eF,uT];unfold land;rw[aD (.inr gR)];simp[jJ,gQ,ml,ir,jr,qQ,rI,mA,dq]
 .rw[Hh];exact h1.of_eq (k2 (s+1) aa)
 .rw[Hh];exact k1
 intro i a b;rw[Hh,k2 i b,h2 i a]
def agH{s1 t1 z1 s2 t2 z2:Nat}{es fs:s_}{c d:C}{x:PV}{aj:aB}(hs:s1≠s2)(h:grown s1 t1 z1 es (.one c) aj)(h':grown s2 t2 z2 fs (.one d) aj):jd aj (.tup [.agg [.p x,c],.one d])=some (.tup [.agg [.p x,aU t1 z1 es],.one (aU t2 z2 fs)]):=by obtain⟨c',o,hc,h2,h3⟩:=h.jM;cases hc;obtain⟨d',q,hd,k2,k3⟩:=h'.jM;cases hd;have e1:jM aj (.p x)=some (.p x,[],[]):=rfl;rcases h3 with rfl|rfl<;>rcases k3 with rfl|rfl<;>simp[jd,tH,vn,oX,nG,h2,k2,e1,apart,vN,tq,AZ,hs]
def Q0{aj:aB}{rd:a_}{s:Nat}{m:aP}{b:Bool}{l:Bool}:land aj rd s ((K8 m b).gJ l)=some (.tup [.agg [.p (.int .i64 m.k),.p (.int .i64 m.a),.p (.int .i64 m.b),.p (.int .i64 m.c),.p (.bool m.l),.p (.bool m.o),.p (.int .i64 m.s)],.one (.p (.bool b))],[]):=by cases l<;>(unfold land;rw[aD (.inr rfl)];rfl)
def HZ(F:Nat)(L:ai):Prop:=aK S 10 [dY F L,.one (.p (.sl (iP vM)))] (.tup [.one (aU fO 7 []),.one (.p (.int .i64 0))])
def ap9:∀ {A B:ai},dG A=dG B->A=B:=by
 intro A
 induction A with
 |nil=>intro B h;cases B with
  |nil=>rfl
  |cons _ _=>cases h
 |cons a A ih=>
  intro B h;cases B with
  |nil=>cases h
  |cons b B=>have h:a.ps::dG A=b.ps::dG B:=h;rw[yh] at h;rw[ih h.2];have h1:=h.1;cases a;cases b;simp only[Let.ps,yh,PV.int.injEq,PV.bool.injEq,and_true,true_and] at h1;obtain⟨rfl,rfl,rfl,rfl,rfl,rfl⟩:=h1;rfl
def ata{A B:ai}(h:jy F A=jy F B):A=B:=by
 unfold jy at h;simp only[RV.tup.injEq,yh,RV.agg.injEq,and_true,true_and] at h;unfold aU at h;by_cases hA:dG A=[]
 .by_cases hB:dG B=[]
  .rw[List.map_eq_nil_iff.1 hA,List.map_eq_nil_iff.1 hB]
  rw[aD hA,ay hB] at h;cases h
 by_cases hB:dG B=[]
 .rw[ay hA,aD hB] at h;cases h
 rw[ay hA,ay hB] at h;simp only[RC.own.injEq,true_and] at h;exact ap9 h
def R9{L:ai}{e:Int}(he:e≠0):jy F L≠nJ e:=fun h=>by unfold jy nJ at h;simp only[RV.tup.injEq,yh,RV.one.injEq,RC.p.injEq,PV.int.injEq,and_true,true_and] at h;exact he h.2.symm
def Ti{M:ai}(aI:ls≠[]){m:aP}(h:nU F ls m.k m.a m.b m.c m.l m.o m.s=jy F M):ft F ls m=some M:=by
 unfold ft;rw[ay aI];unfold nU at h;by_cases hA:di F ls m.k m.a m.b m.c m.l m.o m.s=true
 .rw[aD hA] at h |-;cases hM:qk F ls m.k m.a.toNat m.b.toNat m.c.toNat m.l m.o m.s with
  |none=>rw[hM] at h;exact absurd h.symm (R9 ae)
  |some L=>
   rw[hM] at h;dsimp only;by_cases hc:(400:Int)<(ls.length:Int)+(gZ m.k).1\/(100:Int)<((aq Let.aA ls/2:Nat):Int)+(gZ m.k).2
   .have e2:sP F ls m.k (some L)=nJ 7:=aD hc;rw[e2] at h;exact absurd h.symm (R9 ae)
   have e2:sP F ls m.k (some L)=jy F (eL L):=ay hc;rw[e2] at h;rw[ay hc,ata h]
 rw[ay hA] at h;exact absurd h.symm (R9 ae)
structure CG (F:Nat) (ls:ai) (ms:g_) (L:ai):Prop where
 len:L.length+ms.length<=ls.length
 chk:bQ (F:Int) L=0
 rep:mV F ls ms=some L
 kind:∀m∈ms,m.k∈vM
def Tz(F:Nat)(ls:ai)(ms:g_)(L:ai)(c:C)(aj:aB):Prop:=(c=.p (cT L)/\ms=[]/\L=ls)\/grown 1408320129 jL 6 (dG L) (.one c) aj
def Tz.snap{L:ai}{c:C}{aj:aB}(h:Tz F ls ms L c aj):∃r,∀B:aB,B 1408320129=aj 1408320129->Go.Abs.snap B fE c=some (cT L,r):=by
 rcases h with ⟨rfl,_,_⟩|h
 .exact⟨[],fun B _=>rfl⟩
 obtain⟨r,h1,_⟩:=h.F3;exact⟨r,h1⟩
def CG.step{L:ai}{m:aP}(h:CG F ls ms L)(h4:ls.length<=400)(hm:qO F L vM m):∃M,aK S 30 [dY F L,AS m] (jy F M)/\CG F ls (ms++[m]) M:=by
 have aI:L≠[]:=by obtain⟨_,⟨a,ha,_⟩,_⟩:=hm;intro e;rw[e] at ha;exact absurd ha (oN a)
 obtain⟨G,e,g⟩:=rj h.chk aI;have:F=G:=aa;subst this;have hk:m.k=1\/m.k=4\/m.k=6:=by
  have:=hm.1
  simpa using this
 obtain⟨M,ha,hc,aw,_,_⟩:=alA g hm hk;have Ax:k5 m.k:=by unfold k5;omega
 have pa:=Tk g Ax m.a m.b m.c m.l m.o m.s;rw[ha] at pa;have hl:=h.len;refine⟨M,pa,⟨by rw[fS];simp only[dC,fe];omega,hc,by rw[Yx m h.rep];exact Ti aI ha,fun x hx=>?_⟩⟩;rcases eK.1 hx with h1|h1
 .exact h.kind x h1
 rw[k9.1 h1];exact hm.1
def CG.start(h:bQ (F:Int) ls=0):CG F ls [] ls:=⟨bR _,h,rfl,fun m h=>(by cases h)⟩
def Yv(F:Nat)(ls:ai)(ms:g_)(M:ai)(r:RV):Prop:=(ms=[]/\M=ls/\r=.tup [.agg [.p (.int .i64 F),.p (cT ls)],.one (.p .nils)])\/r=.tup [.agg [.p (.int .i64 F),aU jL 6 (dG M)],.one (aU fO 7 (mP ms))]
def asQ(ny:bQ (F:Int) ls=0)(hlen:ls.length<=400):∃r,(∃ms M,CG F ls ms M/\HZ F M/\Yv F ls ms M r)/\aK S 22 [dY F ls] r:=by
 have mf:S.lone 1408320128=false:=ah;have red:∀L,bQ (F:Int) L=0->∃m b,aK S 25 [dY F L] (K8 m b)/\(b=true->qO F L vM m)/\(b=false->HZ F L):=by
  intro L h;rcases ahh h with ⟨m,h1,_,h2⟩|⟨h1,h2⟩
  .exact⟨m,true,h2,fun _=>h1,fun h=>(by cases h)⟩
  exact⟨SK,false,h2,fun h=>(by cases h),fun _=>h1⟩
 refine Et rfl c22 (iA rfl) ?_;obtain⟨m0,b0,pr0,k1,k2⟩:=red ls ny;simp only[go_sem,i22,s25,de pr0 Q0];refine dy (fun k ak aj=>∃L ms c d m b gm idm,(idm=1408128320\/idm=1408512000)/\ak 1=.one (.aZ 1408000000 1 0)/\ak 2=.one (.aZ 1408000064 1 0)/\aj 1408000064=(1,some (.var [.p (.int .i64 0),.p .nils]))/\ak 6=.one (.p (.bool b))/\ak 4=.one d/\ak 5=.one (.aZ idm gm 0)/\aj idm=(gm,some (.var (m.ps.map .p)))/\aj 1408000000=(1,some (.var [.p (.int .i64 F),c]))/\Tz F ls ms L c aj/\grown 1408384192 fO 7 (mP ms) (.one d) aj/\ms.length=k/\CG F ls ms L/\(b=true->qO F L vM m)/\(b=false->HZ F L)) 0 ls.length (bG _) ?_ ?_
 .simp only[go_sem];refine⟨ls,[],.p (cT ls),.p .nils,m0,b0,1,1408128320,.inl rfl,?_⟩;exact⟨rfl,rfl,rfl,rfl,rfl,.inl ⟨rfl,rfl,rfl⟩,grown.nil,rfl,CG.start ny,k1,k2⟩
 rintro k ak aj hk ⟨L,ms,c,d,m,b,gm,idm,hid,h1,h2,bZ,h6,h4,h5,bm,b0,hc,gp,Hy,hR,au,dM⟩
 rcases hid with rfl|rfl
 .have hcB:=hc;obtain⟨rd,lJ⟩:=hcB.snap;simp only[aP.ps,eh,lQ] at bm;cases b with
  |false=>
   simp only[go_sem,i22_l1,i22_r2,h1,h2,h4,h6,b0,bZ];rcases hc with ⟨rfl,rfl,rfl⟩|gc
   .rcases gp with ⟨_,e2⟩|⟨aI,_⟩
    .cases e2;exact⟨_,⟨[],_,hR,dM rfl,.inl ⟨rfl,rfl,rfl⟩⟩,rfl⟩
    exact absurd rfl aI
   exact⟨_,⟨ms,L,hR,dM rfl,.inr rfl⟩,agH ae (gc.of_eq (aX ae)) (gp.of_eq (aX ae))⟩
  |true=>
   obtain⟨M,pa,He⟩:=hR.step hlen (au rfl);obtain⟨m2,b2,pr2,k1,k2⟩:=red M He.chk;have aoz:=hR.len;simp only[go_sem,i22_l1,h1,h5,h6,bm,b0,lJ,s30];refine Wl pa mf rfl rfl (DY _) fun cc bU gc hb=>?_;have q0:=hb 1408000000 ae;have q1:=hb 1408128320 ae;have q2:=hb 1408000064 ae;simp only[go_sem,b0,bm,bZ] at q0 q1 q2;have G9:=gp.of_eq (hb 1408384192 ae);simp only[go_sem,h1,h4,h5,q0,q1];refine vq (xs:=[aP.ps m]) (G9.of_eq (by simp only[aO,Nat.reduceEqDiff,if_false])) (by simp only[fU,aO,if_true];rfl) (.inl rfl) (by simp only[pL,dC,fe];omega) fun d2 bh gp2 bj=>?_
   have r0:=bj 1408000000 ae ae;have r1:=bj 1408128320 ae ae;have r2:=bj 1408000064 ae ae;simp only[go_sem,q0,q1,q2] at r0 r1 r2;have uw:grown 1408320129 jL 6 (dG M) (.one cc) bh:=(show grown 1408320129 jL 6 (dG M) (.one cc) bU from gc).of_eq ((bj 1408320129 ae ae).trans (by simp only[aO,Nat.reduceEqDiff,if_false]));obtain⟨rd2,fM,_⟩:=uw.F3;simp only[go_sem,h1,h2,h4,h5,h6,r0,r1,r2,fM,s25,de pr2 Q0];have r8:=He.len;rw[fS] at r8
   simp only[dC,fe] at r8;refine⟨aa,M,ms++[m],cc,d2,m2,b2,_,1408512000,.inr rfl,rfl,rfl,rfl,aD rfl,rfl,.inr (uw.of_eq (by simp only[aO,Nat.reduceEqDiff,if_false])),?_,by simp[Hy],He,k1,k2⟩;rw[show mP (ms++[m])=mP ms++[aP.ps m] by simp[mP]];exact gp2.of_eq (by simp only[aO,Nat.reduceEqDiff,if_false])
 have hcB:=hc;obtain⟨rd,lJ⟩:=hcB.snap;simp only[aP.ps,eh,lQ] at bm;cases b with
 |false=>
  simp only[go_sem,i22_l1,i22_r2,h1,h2,h4,h6,b0,bZ];rcases hc with ⟨rfl,rfl,rfl⟩|gc
  .rcases gp with ⟨_,e2⟩|⟨aI,_⟩
   .cases e2;exact⟨_,⟨[],_,hR,dM rfl,.inl ⟨rfl,rfl,rfl⟩⟩,rfl⟩
   exact absurd rfl aI
  exact⟨_,⟨ms,L,hR,dM rfl,.inr rfl⟩,agH ae (gc.of_eq (aX ae)) (gp.of_eq (aX ae))⟩
 |true=>
  obtain⟨M,pa,He⟩:=hR.step hlen (au rfl);obtain⟨m2,b2,pr2,k1,k2⟩:=red M He.chk;have aoz:=hR.len;simp only[go_sem,i22_l1,h1,h5,h6,bm,b0,lJ,s30];refine Wl pa mf rfl rfl (DY _) fun cc bU gc hb=>?_;have q0:=hb 1408000000 ae;have q1:=hb 1408512000 ae;have q2:=hb 1408000064 ae;simp only[go_sem,b0,bm,bZ] at q0 q1 q2;have G9:=gp.of_eq (hb 1408384192 ae);simp only[go_sem,h1,h4,h5,q0,q1];refine vq (xs:=[aP.ps m]) (G9.of_eq (by simp only[aO,Nat.reduceEqDiff,if_false])) (by simp only[fU,aO,if_true];rfl) (.inl rfl) (by simp only[pL,dC,fe];omega) fun d2 bh gp2 bj=>?_
  have r0:=bj 1408000000 ae ae;have r1:=bj 1408512000 ae ae;have r2:=bj 1408000064 ae ae;simp only[go_sem,q0,q1,q2] at r0 r1 r2;have uw:grown 1408320129 jL 6 (dG M) (.one cc) bh:=(show grown 1408320129 jL 6 (dG M) (.one cc) bU from gc).of_eq ((bj 1408320129 ae ae).trans (by simp only[aO,Nat.reduceEqDiff,if_false]));obtain⟨rd2,fM,_⟩:=uw.F3;simp only[go_sem,h1,h2,h4,h5,h6,r0,r1,r2,fM,s25,de pr2 Q0];have r8:=He.len;rw[fS] at r8
  simp only[dC,fe] at r8;refine⟨aa,M,ms++[m],cc,d2,m2,b2,_,1408512000,.inr rfl,rfl,rfl,rfl,aD rfl,rfl,.inr (uw.of_eq (by simp only[aO,Nat.reduceEqDiff,if_false])),?_,by simp[Hy],He,k1,k2⟩;rw[show mP (ms++[m])=mP ms++[aP.ps m] by simp[mP]];exact gp2.of_eq (by simp only[aO,Nat.reduceEqDiff,if_false])
def ahT{f:Int}{n:Int}(hn:n<=1000000):aK S 4 [dY f ls,vi n] (rb (decide ((ls.length:Int)<=n)&&(bQ f ls==0))):=by
 by_cases h:(ls.length:Int)<=n
 .have pc:=akV f ls aa;have hd:decide ((ls.length:Int)<=n)=true:=Bg h;rw[hd];generalize bQ f ls=e at*;refine bk c4 ?_;simp only[go_sem,i4,h,s12,eT pc];all_goals(first|done|exact aJ|exact⟨aJ,rfl⟩|rfl)
 have hd:decide ((ls.length:Int)<=n)=false:=Eo h;rw[hd];refine bk c4 ?_;simp only[go_sem,i4,h];all_goals(first|done|exact aJ|exact⟨aJ,rfl⟩|rfl)
def amk(f:Int)(ls:ai)(hl:ls.length<=1000000):aK S 11 [dY f ls,dY f ls] (rb true):=by
 refine bk c11 ?_;simp only[go_sem,i11,bne];refine dy (fun k ak aj=>ak 2=.one (.aZ 704000000 1 0)/\ak 3=.one (.aZ 704000064 1 0)/\ak 5=vi k/\aj 704000000=(1,some (.var (uk f ls)))/\aj 704000064=(1,some (.var (uk f ls)))) 0 ls.length (bG _) ?_ ?_
 .simp only[go_sem];first|done|rfl
 rintro k ak aj hk ⟨h2,h3,h5,b0,b1⟩
 by_cases aw:k<ls.length
 .have aL:((k:Int)<(ls.length:Int)):=aa;have w1:=cS (n:=k) aa;obtain⟨x,hx⟩:=aM aw;have zb:=iO hx;have es:=Mt x x;rw[FN] at es;simp only[go_sem,i11_l1,h2,h3,h5,b0,b1,aw,aL,zb,Let.ps,w1,es];first|done|exact aJ|exact⟨aJ,rfl⟩
 have:k=ls.length:=aa;subst this;simp only[go_sem,i11_l1,i11_r2,h2,h5,b0,eI];first|done|rfl
section
variable {Q:dO} {ak:Env} {aj:aB} {os:h_} {d:w_}
def anp{f:Nat}{vs:e_}{s ty z:Nat}{rd:a_}{es:s_}{x y w:PV}(hp:aK S f vs (.tup [.agg [.p x,aU ty z es],.one (.p y),.one (.p w)]))(eF:S.lone s=false)(hx:x.scalar=true)(hy:y.scalar=true)(hw:w.scalar=true)(hs:(es.all fun e=>e.all PV.scalar)=true)
  (hK:∀(c:C) ao,grown (s+1) ty z es (.one c) ao->(∀i,i≠s+1->ao i=aj i)->RN S .all os Q (put ak d (.tup [.agg [.p x,c],.one (.p y),.one (.p w)])) ao):gP S .all (.pc f vs rd s) d os Q ak aj:=by
 obtain⟨h1,h2,_⟩:=sk (aj:=aj) (s:=s+1) (ty:=ty) (z:=z) (es:=es);have gR:(RV.tup [.agg [.p x,aU ty z es],.one (.p y),.one (.p w)]).alone=true:=by have a:=qY (ty:=ty) (z:=z) hs;simp only[RV.alone,gQ,ir,mH,pQ,vS] at a;simp only[RV.alone,gQ,ml,ir,mW,fZ,jA,mH,pQ,vS,a,Eg];show(x.scalar&&(y.scalar&&w.scalar))=true;rw[hx,hy,hw];rfl
 refine(de (v:=.tup [.agg [.p x,(dq aj (s+1) (aU ty z es)).1],.one (.p y),.one (.p w)]) (u:=(dq aj (s+1) (aU ty z es)).2) hp ?_).2 (hK _ _ h1 h2);rw[eF,uT];unfold land;rw[aD (.inr gR)];simp[jJ,gQ,ml,ir,jr,qQ,rI,mA,dq]
end
end
end Go.Abs
