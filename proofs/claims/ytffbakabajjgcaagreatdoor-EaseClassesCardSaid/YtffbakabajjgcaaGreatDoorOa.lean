/-
  The document lists moves and makes normal forms as the program does.
-/
import Derived.Test.YtffbakabajjgcaaGreatDoorDc
import Derived.Test.YtffbakabajjgcaaGreatDoorRe
set_option linter.all false
set_option maxRecDepth 100000
set_option maxHeartbeats 16000000
namespace Go.Abs
theorem Tq{α:Type}(f:Nat->List α)(k:Nat):(List.range k++[k]).flatMap f=(List.range k).flatMap f++f k:=by rw[List.flatMap_append];simp
def tx(k:Int)(v:Nat->Nat->Nat->Int)(a b c:Nat):List aU:=if v a b c=0 then [⟨k,a,b,c,false,false,0⟩] else []
def De(nc:Nat)(k:Int)(v:Nat->Nat->Nat->Int)(a b:Nat):List aU:=(List.range nc).flatMap (tx k v a b)
def Fm(nb nc:Nat)(k:Int)(v:Nat->Nat->Nat->Int)(a:Nat):List aU:=(List.range nb).flatMap (De nc k v a)
def Hn(n nb nc:Nat)(k:Int)(v:Nat->Nat->Nat->Int):List aU:=(List.range n).flatMap (Fm nb nc k v)
def nE(xs:List (List PV)):PV:=if xs=[] then .nils else .sl xs
theorem aqa{aj:aw}(xs:List (List PV)):ed aj (.one (.p (nE xs)))=some (xs,[],[]):=by
 unfold nE;by_cases h:xs=[]
 .rw[aD h,h];rfl
 rw[ay h];rfl
theorem Fv(xs:List (List PV)):(nE xs).norm=.sl xs:=by
 unfold nE;by_cases h:xs=[]
 .rw[aD h,h];rfl
 rw[ay h];rfl
theorem Fb{aj:aw}{s ty z:Nat}{es:List (List PV)}(lo:S.lone s=true):land aj [] s ((RV.one (aO ty z es)).eD (S.lone s))=some (.one (.p (nE es)),[]):=by
 rw[lo];unfold aO nE;by_cases h:es=[]
 .rw[aD h,aD h];rfl
 rw[ay h,ay h];rfl
section
variable {F:Nat} {ls:List Let}
abbrev qC:Nat:=57
theorem ake{k a b c v:Int}{u:ByteArray}(hL:aF S 125 [kB u,.one (.p (.int .u8 76))] (rb false))(hO:aF S 125 [kB u,.one (.p (.int .u8 79))] (rb false))(hv:aF S 156 [iH F ls,fE k a b c false false 0] (ri v)):aF S 126 [iH F ls,fE k a b c false false 0,kB u] (.one (aO qC 7 (mP (if v=0 then [⟨k,a,b,c,false,false,0⟩] else [])))):=by
 refine aV c126 ?_;by_cases h:v=0
 .subst h;have e0:((0:Int)==0)=true:=rfl;rw[aD rfl];simp only[go_sem,i126,s125,bh hL,bh hO,s156,dJ hv,e0];refine ni (id:=8064256192) (site:=8064256192) (es:=[]) (xs:=[[.int .i64 k,.int .i64 a,.int .i64 b,.int .i64 c,.bool false,.bool false,.int .i64 0]]) grown.nil (by simp only[ed,aN,if_true];rfl) (.inl rfl) af fun c2 ao g1 hb=>?_;simp only[go_sem];exact xR g1
 rw[ay h];have h':(v==0)=false:=by simpa using h
 simp only[go_sem,i126,s125,bh hL,bh hO,s156,dJ hv,h'];first|done|rfl
theorem aoE{x:PV}(hx:x.norm=.sl (jR (dh F ls))){k:Int}{u:ByteArray}{v:Nat->Nat->Nat->Int}{N nb nc G:Nat}(hN:N<=400)(hnb:nb<=400)(Jn:nc<=400)(hL:aF S 125 [kB u,.one (.p (.int .u8 76))] (rb false))(hO:aF S 125 [kB u,.one (.p (.int .u8 79))] (rb false))(hv:∀a b c:Nat,aF S 156 [iH F ls,fE k a b c false false 0] (ri (v a b c))){ak:Env}{aj:aw}
  (f1:ak 1=vi k) (f5:ak 5=.one (.p .nils)) (f6:ak 6=kB u) (f7:ak 7=.one (.aX 5312192128 G 0)) (f8:ak 8=vi N) (f9:ak 9=vi nb) (f10:ak 10=vi nc) (f11:ak 11=vi 0) (b7:aj 5312192128=(G,some (.var [.p (.int .i64 F),.p (cQ ls),.p (.int .i64 ls.length),.p x]))):
  W S .all (.loop i83_l5) (lN 0 (xu S .all i83_r6 (qS .all i83.results fun w aj=>gh aj w=some (.one (aO qC 7 (mP (Hn N nb nc k v))))))) ak aj:=by
 have lo:S.lone 5313344512=true:=ah;have uI:∀a b c:Nat,aF S 126 [iH F ls,fE k a b c false false 0,kB u] (.one (aO qC 7 (mP (tx k v a b c)))):=fun a b c=>ake hL hO (hv a b c);refine cJ (fun a ak aj=>ak 1=vi k/\ak 6=kB u/\ak 7=.one (.aX 5312192128 G 0)/\ak 8=vi N/\ak 9=vi nb/\ak 10=vi nc/\ak 11=vi a/\aj 5312192128=(G,some (.var [.p (.int .i64 F),.p (cQ ls),.p (.int .i64 ls.length),.p x]))/\ ∃cc,ak 5=.one cc/\((List.range a).flatMap (Fm nb nc k v)).length<=161000*a/\grown 5313344576 qC 7 (mP ((List.range a).flatMap (Fm nb nc k v))) (.one cc) aj) 0 N (bj _) ⟨f1,f6,f7,f8,f9,f10,f11,b7,_,f5,af,grown.nil⟩ ?_;clear f1 f5 f6 f7 f8 f9 f10 f11 b7;rintro a ak aj ha ⟨f1,f6,f7,f8,f9,f10,f11,b7,ca,f5,o9,ga⟩
 by_cases aq:a<N
 .have aL:((a:Int)<(N:Int)):=aa;have w1:=bN (n:=a) aa;have sa:=Tq (Fm nb nc k v) a;generalize hea:(List.range a).flatMap (Fm nb nc k v)=ea at*;simp only[go_sem,i83_l5,f8,f11,aL];refine cJ (fun b ak aj=>ak 1=vi k/\ak 6=kB u/\ak 7=.one (.aX 5312192128 G 0)/\ak 8=vi N/\ak 9=vi nb/\ak 10=vi nc/\ak 11=vi a/\ak 12=vi b/\aj 5312192128=(G,some (.var [.p (.int .i64 F),.p (cQ ls),.p (.int .i64 ls.length),.p x]))/\ ∃cc,ak 5=.one cc/\(ea++(List.range b).flatMap (De nc k v a)).length<=161000*a+401*b/\grown 5313344576 qC 7 (mP (ea++(List.range b).flatMap (De nc k v a))) (.one cc) aj) 0 nb (bj _) ?_ ?_
  .simp only[go_sem,f1,f5,f6,f7,f8,f9,f10,f11,b7];exact⟨rfl,_,rfl,by simpa using o9,by simpa using ga⟩
  clear f1 f5 f6 f7 f8 f9 f10 f11 b7 ga o9;rintro b ak aj hb ⟨f1,f6,f7,f8,f9,f10,f11,f12,b7,ca,f5,o9,ga⟩
  by_cases yj:b<nb
  .have alv:((b:Int)<(nb:Int)):=aa;have w2:=bN (n:=b) aa;have sb:=Tq (De nc k v a) b;generalize heb:(List.range b).flatMap (De nc k v a)=eb at*;simp only[go_sem,i83_l3,f9,f12,alv];refine cJ (fun c ak aj=>ak 1=vi k/\ak 6=kB u/\ak 7=.one (.aX 5312192128 G 0)/\ak 8=vi N/\ak 9=vi nb/\ak 10=vi nc/\ak 11=vi a/\ak 12=vi b/\ak 13=vi c/\aj 5312192128=(G,some (.var [.p (.int .i64 F),.p (cQ ls),.p (.int .i64 ls.length),.p x]))/\ ∃cc,ak 5=.one cc/\(ea++eb++(List.range c).flatMap (tx k v a b)).length<=161000*a+401*b+c/\grown 5313344576 qC 7 (mP (ea++eb++(List.range c).flatMap (tx k v a b))) (.one cc) aj) 0 nc (bj _) ?_ ?_
   .simp only[go_sem,f1,f5,f6,f7,f8,f9,f10,f11,f12,b7];exact⟨rfl,_,rfl,by simpa using o9,by simpa using ga⟩
   clear f1 f5 f6 f7 f8 f9 f10 f11 f12 b7 ga o9;rintro c ak aj hc ⟨f1,f6,f7,f8,f9,f10,f11,f12,f13,b7,ca,f5,o9,ga⟩
   by_cases hlc:c<nc
   .have alw:((c:Int)<(nc:Int)):=aa;have w3:=bN (n:=c) aa;have sc:=Tq (tx k v a b) c;have pf:=uI a b c;have cP:(mP (tx k v a b c)).length<=1:=by
     unfold tx;split<;>simp[mP]
    have TU:(tx k v a b c).length<=1:=by unfold tx;split<;>simp
    have cA:eo 7 (mP (tx k v a b c))=true:=by unfold tx;split<;>rfl
    generalize hec:(List.range c).flatMap (tx k v a b)=ec at*;generalize wI:tx k v a b c=qs at*;simp only[go_sem,i83_l1,f1,f5,f6,f7,f10,f11,f12,f13,b7,hx,alw,s126,cU pf (Fb lo)];have de:(mP (ea++eb++ec)).length=(ea++eb++ec).length:=cH ..;refine ni (id:=5313344576) (site:=5313344576) (es:=mP (ea++eb++ec)) (xs:=mP qs) ga (aqa _) (.inr cA) aa fun c2 ao g1 cq=>?_;have b7':=cq 5312192128 ae ae;rw[b7] at b7';simp only[go_sem,f1,f5,f6,f7,f8,f9,f10,f11,f12,f13,w3];refine⟨hlc,b7',c2,rfl,?_,?_⟩
    .rw[sc,<- uv,eG];omega
    rw[sc,<- uv,show mP (ea++eb++ec++qs)=mP (ea++eb++ec)++mP qs by simp[mP]];exact g1
   have Gs:c=nc:=aa;subst Gs;have e2:(List.range c).flatMap (tx k v a b)=De c k v a b:=rfl;rw[e2] at o9 ga;simp only[go_sem,i83_l1,i83_r2,f1,f5,f6,f7,f8,f9,f10,f11,f12,f13,dG,w2];refine⟨yj,b7,_,rfl,?_,?_⟩
   .rw[sb,<- uv];omega
   rw[sb,<- uv];exact ga
  have hbn:b=nb:=aa;subst hbn;have e2:(List.range b).flatMap (De nc k v a)=Fm b nc k v a:=rfl;rw[e2] at o9 ga;simp only[go_sem,i83_l3,i83_r4,f1,f5,f6,f7,f8,f9,f10,f11,f12,dG,w1];refine⟨aq,b7,_,rfl,?_,?_⟩
  .rw[sa];omega
  rw[sa];exact ga
 have han:a=N:=aa;subst han;simp only[go_sem,i83_l5,i83_r6,i83,f5,f8,f11,dG];exact xR ga
theorem aoC(h:ls=[]\/bQ F ls):∃x r,x.norm=.sl (jR (dh F ls))/\aF S 84 [cZ F ls] r/\ ∀(aj:aw) (s:Nat),S.lone s=true->land aj [] s (r.eD (S.lone s))=some (.agg [.p (.int .i64 F),.p (cQ ls),.p (.int .i64 ls.length),.p x],[]):=by
 rcases h with rfl|g
 .exact⟨.nils,_,rfl,of_e F,fun aj s h=>by rw[h];rfl⟩
 refine⟨.sl (jR (dh F ls)),_,rfl,Vp g,fun aj s h=>?_⟩;rw[h,xQ (Tn g)];rfl
theorem Nl(h:ls=[]\/bQ F ls)(hl:ls.length<=400){k:Int}{u:ByteArray}{pb pc:Bool}{v:Nat->Nat->Nat->Int}(hk:(k==2)=false)(hu:aF S 124 [vi k] (Ko u))(hB:aF S 125 [kB u,.one (.p (.int .u8 66))] (rb pb))(hC:aF S 125 [kB u,.one (.p (.int .u8 67))] (rb pc))(hL:aF S 125 [kB u,.one (.p (.int .u8 76))] (rb false))(hO:aF S 125 [kB u,.one (.p (.int .u8 79))] (rb false))(hv:∀a b c:Nat,aF S 156 [iH F ls,fE k a b c false false 0] (ri (v a b c))):
  aF S 83 [cZ F ls,vi k] (.one (aO qC 7 (mP (Hn (max ls.length 1) (if pb then max ls.length 1 else 1) (if pc then max ls.length 1 else 1) k v)))):=by
 obtain⟨x,r,hx,po,ld⟩:=aoC h;have lo:S.lone 5312192064=true:=ah;obtain⟨N,hN⟩:∃N,max ls.length 1=N:=⟨_,rfl⟩;have hN2:(if (1:Int)>(ls.length:Int) then (1:Int) else (ls.length:Int))=(N:Int):=by split<;>omega
 have hNb:N<=400:=aa;rw[hN];refine aV c83 ?_;cases pb<;>cases pc
 all_goals
  simp only[go_sem,i83,s124,vk hu,s84,cU po (ld _ _ lo),s125,bh hB,bh hC,hk,hN2];refine aoE (G:=1) hx hNb ?_ ?_ hL hO hv ?_ ?_ ?_ ?_ ?_ ?_ ?_ ?_ ?_;all_goals first
   |omega
   |(simp only[go_sem];first|done|rfl|trace_state)
end
theorem anU{x y:aU}(h:uP x y):¬uP y x:=by unfold uP Da pL at*;simp only[sN,cN,kV] at*;omega
theorem ajB{R:aU->aU->Prop}(ha:∀x y,R x y-> ¬R y x):∀ {A B:List aU},A.Pairwise R->B.Pairwise R->(∀m,m∈A↔m∈B)->A=B:=by
 intro A
 induction A with
 |nil=>
  intro B _ _ h;cases B with
  |nil=>rfl
  |cons b B=>exact absurd ((h b).2 af) af
 |cons a A ih=>
  intro B hA hB h;cases B with
  |nil=>exact absurd ((h a).1 af) af
  |cons b B=>
   rw[FT] at hA hB;have e:a=b:=by apply Classical.byContradiction;intro aI;have h1:a∈B:=(cI.1 ((h a).1 af)).resolve_left aI;have h2:b∈A:=(cI.1 ((h b).2 af)).resolve_left (Ne.symm aI);exact ha _ _ (hA.1 b h2) (hB.1 a h1)
   subst e;rw[ih hA.2 hB.2 fun m=>⟨fun hm=>?_,fun hm=>?_⟩]
   .rcases cI.1 ((h m).1 (yN _ hm)) with e|e
    .subst e;exact absurd (hA.1 m hm) fun hr=>ha m m hr hr
    exact e
   rcases cI.1 ((h m).2 (yN _ hm)) with e|e
   .subst e;exact absurd (hB.1 m hm) fun hr=>ha m m hr hr
   exact e
section
variable {n nb nc:Nat} {k:Int} {v:Nat->Nat->Nat->Int} {a b c:Nat} {m:aU}
theorem Vn:m∈tx k v a b c↔v a b c=0/\m=⟨k,a,b,c,false,false,0⟩:=by
 unfold tx;split
 .rename_i h;simp[h]
 rename_i h;simp[h]
theorem Vm:m∈De nc k v a b↔ ∃c,c<nc/\v a b c=0/\m=⟨k,a,b,c,false,false,0⟩:=by unfold De;simp only[Om,fg,Vn]
theorem Vl:m∈Fm nb nc k v a↔ ∃b c,b<nb/\c<nc/\v a b c=0/\m=⟨k,a,b,c,false,false,0⟩:=by unfold Fm;simp only[Om,fg,Vm];exact⟨fun⟨b,h1,c,h2,h3⟩=>⟨b,c,h1,h2,h3⟩,fun⟨b,c,h1,h2,h3⟩=>⟨b,h1,c,h2,h3⟩⟩
theorem aoB:m∈Hn n nb nc k v↔ ∃a b c,a<n/\b<nb/\c<nc/\v a b c=0/\m=⟨k,a,b,c,false,false,0⟩:=by unfold Hn;simp only[Om,fg,Vl];exact⟨fun⟨a,h1,b,c,h2,h3,h4⟩=>⟨a,b,c,h1,h2,h3,h4⟩,fun⟨a,b,c,h1,h2,h3,h4⟩=>⟨a,h1,b,c,h2,h3,h4⟩⟩
theorem adp(n nb nc:Nat)(k:Int)(v:Nat->Nat->Nat->Int):(Hn n nb nc k v).Pairwise uP:=by
 unfold Hn;refine af9.2 ⟨fun a _=>?_,List.pairwise_lt_range.imp fun h x hx y hy=>?_⟩
 .refine af9.2 ⟨fun b _=>?_,List.pairwise_lt_range.imp fun h x hx y hy=>?_⟩
  .refine af9.2 ⟨fun c _=>?_,List.pairwise_lt_range.imp fun h x hx y hy=>?_⟩
   .unfold tx;split
    .exact List.pairwise_singleton _ _
    exact List.Pairwise.nil
   obtain⟨_,rfl⟩:=Vn.1 hx;obtain⟨_,rfl⟩:=Vn.1 hy;refine .inr ⟨rfl,.inr ⟨rfl,?_⟩⟩;unfold pL;simp only[sN,cN,kV,true_and];omega
  obtain⟨_,_,_,rfl⟩:=Vm.1 hx;obtain⟨_,_,_,rfl⟩:=Vm.1 hy;refine .inr ⟨rfl,.inr ⟨rfl,?_⟩⟩;unfold pL;simp only[sN,cN,kV];omega
 obtain⟨_,_,_,_,_,rfl⟩:=Vl.1 hx;obtain⟨_,_,_,_,_,rfl⟩:=Vl.1 hy;refine .inr ⟨rfl,.inl ?_⟩;show((_:Nat):Int)<((_:Nat):Int);omega
end
section
variable {F:Nat} {L:List Let}
def YZ(F:Nat)(L:List Let)(k a b c:Int)(p:Bool)(N:List Let)(D:List Bool):Prop:=aF S 192 [iH F L,fE k a b c false false 0] (rb p)/\((sC F L k a.toNat b.toNat c.toNat false false 0).isSome=p/\ ∀M,sC F L k a.toNat b.toNat c.toNat false false 0=some M->Rel M N D)/\aF S 50 [cZ F L,fE k a b c false false 0] (apO F N D)
theorem Xx{k:Int}(hk:k5 k)(h:L=[]\/bQ F L){a b c:Int}{l o:Bool}{sg:Int}(hA:bY F L k a b c l o sg=false):jA F L ⟨k,a,b,c,l,o,sg⟩=none:=by
 rcases h with rfl|g
 .unfold jA;rw[aD rfl,hA];rfl
 rw[Sw g hk];simp only[hA];rfl
theorem al_k(h:L=[]\/bQ F L){k:Int}(hk:k5 k){a b c:Nat}(he:∀x y:Int,alG x y k=(x,y))(pw:aF S 191 [iH F L,fE k a b c false false 0] (rb (!bY F L k a b c false false 0)))(hn:L=[]->bY F L k a b c false false 0=false)
  (dk:bQ F L->bY F L k a b c false false 0=true->∃p N D,YZ F L k a b c p N D):∃v,aF S 156 [iH F L,fE k a b c false false 0] (ri v)/\(v=0↔ ∃X,jA F L ⟨k,a,b,c,false,false,0⟩=some X):=by
 have hl:L.length<=400:=by
  rcases h with rfl|g
  .simp
  exact g.len
 cases hA:bY F L k a b c false false 0 with
 |false=>rw[hA] at pw;refine⟨_,OB (p:=false) hl pw (fun h=>by cases h),?_⟩;rw[Xx hk h hA];unfold alR;simp
 |true=>
  rcases h with rfl|g
  .exact absurd (hn rfl) (by rw[hA];decide)
  obtain⟨p,N,D,pp,⟨hm,_⟩,_⟩:=dk g hA;rw[hA] at pw;refine⟨_,OB hl pw fun _=>pp,?_⟩;have h2:=g.cr;have h3:=g.len;have e1:decide ((400:Int)<(L.length:Int))=false:=vW aa;have e2:decide ((100:Int)<((aC Let.aG L/2:Nat):Int))=false:=vW aa;rw[Sw g hk];simp only[hA,if_true];unfold alR;rw[he,<- hm];simp only[e1,e2,Bool.or_self,DB];cases sC F L k (a:Int).toNat (b:Int).toNat (c:Int).toNat false false 0 with
  |none=>simp
  |some M=>simp
theorem agS(h:L.length<=400){k:Int}{a b c:Nat}(pw:aF S 191 [iH F L,fE k a b c false false 0] (rb (!bY F L k a b c false false 0)))
  (pp:bY F L k a b c false false 0=true->∃p,aF S 192 [iH F L,fE k a b c false false 0] (rb p)):∃v,aF S 156 [iH F L,fE k a b c false false 0] (ri v):=by
 cases hA:bY F L k a b c false false 0 with
 |false=>rw[hA] at pw;exact⟨_,OB (p:=false) h pw (fun h=>by cases h)⟩
 |true=>obtain⟨p,pp⟩:=pp hA;rw[hA] at pw;exact⟨_,OB h pw fun _=>pp⟩
theorem adr{k:Int}{n nb nc:Nat}{v:Nat->Nat->Nat->Int}(hv:∀a b c:Nat,v a b c=0↔ ∃X,jA F L ⟨k,a,b,c,false,false,0⟩=some X)(hf:∀m X,m.k=k->jA F L m=some X->∃a b c:Nat,a<n/\b<nb/\c<nc/\m=⟨k,a,b,c,false,false,0⟩)(m:aU):m∈Hn n nb nc k v↔m.k=k/\ ∃X,jA F L m=some X:=by
 rw[aoB];constructor
 .rintro ⟨a,b,c,_,_,_,hv0,rfl⟩
  exact⟨rfl,(hv a b c).1 hv0⟩
 rintro ⟨A7,X,hX⟩
 obtain⟨a,b,c,ha,hb,hc,rfl⟩:=hf m X A7 hX;exact⟨a,b,c,ha,hb,hc,(hv a b c).2 ⟨X,hX⟩,rfl⟩
end
section
variable {F:Nat} {L:List Let}
theorem Y0(g:bQ F L){k a b c:Int}(hk:k=3\/k=8)(hA:bY F L k a b c false false 0=true):∃p N D,YZ F L k a b c p N D:=by
 have hl:=g.len;rcases hk with rfl|rfl
 .obtain⟨av,bv,dX,hb,rfl,rfl,rfl,_⟩:=(Ig (.inl rfl)).1 hA;exact⟨_,_,_,apS g aa hb,mv3q g aa hb aa,ag0 g av bv 0 false false 0 aa hb aa hl⟩
 obtain⟨av,bv,cv,dX,Co,hc,rfl,rfl,rfl,_⟩:=OI.1 hA;exact⟨_,_,_,apV g aa aa hc,mv8 g aa aa hc,ag1 g av bv cv false false 0 aa aa hc aa hl⟩
theorem ac4{k:Int}(hk:k=3\/k=8){a b c sg:Int}{l o:Bool}:bY F [] k a b c l o sg=false:=by
 cases hA:bY F [] k a b c l o sg with
 |false=>rfl
 |true=>
  rcases hk with rfl|rfl
  .obtain⟨av,bv,dX,hb,_⟩:=(Ig (.inl rfl)).1 hA;simp at hb
  obtain⟨av,bv,cv,dX,Co,hc,_⟩:=OI.1 hA;simp at hc
theorem Qe{m:aU}(h0:L=[]\/bQ F L)(hk:m.k=3\/m.k=8){X:List Let}(h:jA F L m=some X):∃a b c:Nat,a<L.length/\b<L.length/\c<L.length/\(m.k=8\/c=0)/\m=⟨m.k,a,b,c,false,false,0⟩/\bQ F L:=by
 have hA:bY F L m.k m.a m.b m.c m.l m.o m.s=true:=by
  cases hA:bY F L m.k m.a m.b m.c m.l m.o m.s with
  |true=>rfl
  |false=>have e:=Xx (show k5 m.k by unfold k5;omega) h0 hA;rw[show(⟨m.k,m.a,m.b,m.c,m.l,m.o,m.s⟩:aU)=m by cases m;rfl,h] at e;cases e
 rcases h0 with rfl|g
 .rw[ac4 hk] at hA;cases hA
 have hp:=g.pos;obtain⟨k,a,b,c,l,o,sg⟩:=m;simp only at hk hA ⊢;rcases hk with rfl|rfl
 .obtain⟨av,bv,dX,hb,rfl,rfl,rfl,rfl,rfl,rfl⟩:=(Ig (.inl rfl)).1 hA;exact⟨av,bv,0,aa,hb,hp,.inr rfl,rfl,g⟩
 obtain⟨av,bv,cv,dX,Co,hc,rfl,rfl,rfl,rfl,rfl,rfl⟩:=OI.1 hA;exact⟨av,bv,cv,aa,aa,hc,.inl rfl,rfl,g⟩
theorem ag4(g:bQ F L){m:aU}(hk:m.k=3\/m.k=8){X:List Let}(h:jA F L m=some X):aF S 50 [cZ F L,Hi m] (.agg [.p (.int .i64 F),aO gH 6 (aZ X)]):=by obtain⟨_,hA,P,hP,rfl⟩:=OG g (by unfold k5;omega) h;obtain⟨a,b,c,_,_,_,_,e,_⟩:=Qe (.inr g) hk h;generalize m.k=k at*;subst e;obtain⟨p,N,D,_,⟨_,hm⟩,pa⟩:=Y0 g hk hA;have hr:=hm P hP;rw[hr.fin];exact pa
theorem adq(h:L=[]\/bQ F L){k:Int}(hk:k=3\/k=8):∃ms:List aU,aF S 83 [cZ F L,vi k] (.one (aO qC 7 (mP ms)))/\ms.Pairwise uP/\ ∀m,m∈ms↔m.k=k/\ ∃X,jA F L m=some X:=by
 have hl:L.length<=400:=by
  rcases h with rfl|g
  .simp
  exact g.len
 have hw:∀a b c:Nat,aF S 191 [iH F L,fE k a b c false false 0] (rb (!bY F L k a b c false false 0)):=fun a b c=>by
  rcases hk with rfl|rfl
  .exact atI aa
  exact atL aa
 have he:∀x y:Int,alG x y k=(x,y):=fun x y=>by rcases hk with rfl|rfl<;>rfl
 have al:∀a b c:Nat,_:=fun a b c=>al_k (a:=a) (b:=b) (c:=c) h (show k5 k by unfold k5;omega) he (hw a b c) (fun e=>by subst e;exact ac4 hk) (fun g hA=>Y0 g hk hA);obtain⟨v,hv⟩:∃v:Nat->Nat->Nat->Int,∀a b c:Nat,aF S 156 [iH F L,fE k a b c false false 0] (ri (v a b c))/\(v a b c=0↔ ∃X,jA F L ⟨k,a,b,c,false,false,0⟩=some X):=
  ⟨fun a b c=>Classical.choose (al a b c),fun a b c=>Classical.choose_spec (al a b c)⟩
 rcases hk with rfl|rfl
 .refine⟨_,Nl h hl ae afz JZ Ka QB QC fun a b c=>(hv a b c).1,adp _ _ _ _ _,adr (fun a b c=>(hv a b c).2) fun m X A7 hX=>?_⟩;obtain⟨a,b,c,h1,h2,h3,h4,e,_⟩:=Qe h (.inl A7) hX;rw[A7] at e h4;exact⟨a,b,c,aa,by simp;omega,by simp;omega,e⟩
 refine⟨_,Nl h hl ae afC Vv Vw adH adI fun a b c=>(hv a b c).1,adp _ _ _ _ _,adr (fun a b c=>(hv a b c).2) fun m X A7 hX=>?_⟩;obtain⟨a,b,c,h1,h2,h3,h4,e,_⟩:=Qe h (.inr A7) hX;rw[A7] at e h4;exact⟨a,b,c,aa,by simp;omega,by simp;omega,e⟩
theorem Vo(h:L=[]\/bQ F L){k:Int}(hk:k=1\/k=4\/k=6):∃ms:List aU,aF S 83 [cZ F L,vi k] (.one (aO qC 7 (mP ms))):=by
 have hl:L.length<=400:=by
  rcases h with rfl|g
  .simp
  exact g.len
 have al:∀a b c:Nat,∃v,aF S 156 [iH F L,fE k a b c false false 0] (ri v):=fun a b c=>by
  refine agS hl ?_ fun hA=>?_
  .rcases hk with rfl|rfl|rfl
   .exact atH aa
   .exact atJ aa
   exact atK aa
  rcases h with rfl|g
  .rcases hk with rfl|rfl|rfl
   .obtain⟨av,ha,_⟩:=(OH (.inl rfl)).1 hA;simp at ha
   .obtain⟨av,ha,_⟩:=(OH (.inr rfl)).1 hA;simp at ha
   obtain⟨av,bv,dX,hb,_⟩:=(Ig (.inr rfl)).1 hA;simp at hb
  rcases hk with rfl|rfl|rfl
  .obtain⟨av,ha,e,_⟩:=(OH (.inl rfl)).1 hA;obtain rfl:a=av:=aa;exact⟨_,apR g ha (QT g ha) (QT g (Hm ha))⟩
  .obtain⟨av,ha,e,_⟩:=(OH (.inr rfl)).1 hA;obtain rfl:a=av:=aa;exact⟨_,apT g ha⟩
  obtain⟨av,bv,dX,hb,e,e2,_⟩:=(Ig (.inr rfl)).1 hA;obtain rfl:a=av:=aa;obtain rfl:b=bv:=aa;exact⟨_,apU g aa hb⟩
 rcases hk with rfl|rfl|rfl
 .exact⟨_,Nl h hl ae afy JY QD QE QF fun a b c=>Classical.choose_spec (al a b c)⟩
 .exact⟨_,Nl h hl ae afA JY QD QE QF fun a b c=>Classical.choose_spec (al a b c)⟩
 exact⟨_,Nl h hl ae afB JZ Ka QB QC fun a b c=>Classical.choose_spec (al a b c)⟩
end
def FG(a:Nat)(b:UInt8):Nat:=10*a+(b.toNat-48)
def tM(b:UInt8):Prop:=48<=b.toNat/\b.toNat<=57
theorem Kx{n:Nat}(h:n<256):(UInt8.ofNat n).toNat=n:=by rw[UInt8.toNat_ofNat'];exact jN h
theorem ai6:∀(k u:Nat) (acc:List UInt8),u<10 ^ (k+1)->∃ds,rX (k+1) u acc=ds++acc/\ds≠[]/\(∀b∈ds,tM b)/\ds.foldl FG 0=u:=by
 intro k
 induction k with
 |zero=>
  intro u acc h;have hu:u<10:=by simpa using h
  refine⟨[UInt8.ofNat (48+u)],?_,af,fun b hb=>?_,?_⟩
  .unfold rX;have hb:Nat.blt u 10=true:=R9 hu;rw[hb];rfl
  .rw[lK.1 hb];unfold tM;rw[Kx aa];omega
  show FG 0 (UInt8.ofNat (48+u))=u;unfold FG;rw[Kx aa];omega
 |succ k ih=>
  intro u acc h;by_cases hu:u<10
  .refine⟨[UInt8.ofNat (48+u)],?_,af,fun b hb=>?_,?_⟩
   .unfold rX;have hb:Nat.blt u 10=true:=R9 hu;rw[hb];rfl
   .rw[lK.1 hb];unfold tM;rw[Kx aa];omega
   show FG 0 (UInt8.ofNat (48+u))=u;unfold FG;rw[Kx aa];omega
  have hq:u/10<10 ^ (k+1):=by have:10 ^ (k+1+1)=10 ^ (k+1)*10:=Nat.pow_succ ..;omega
  have hr:=ez u (show 0<10 by decide);obtain⟨ds,h1,h2,h3,h4⟩:=ih (u/10) (UInt8.ofNat (48+u%10)::acc) hq;refine⟨ds++[UInt8.ofNat (48+u%10)],?_,af,fun b hb=>?_,?_⟩
  .have hb:Nat.blt u 10=false:=by
    cases e:Nat.blt u 10 with
    |false=>rfl
    |true=>exact absurd (iv e) hu
   have e:rX (k+1+1) u acc=rX (k+1) (u/10) (UInt8.ofNat (48+u%10)::acc):=by rw[rX,hb];rfl
   rw[e,h1];simp
  .rcases dZ.1 hb with hb|hb
   .exact h3 b hb
   rw[lK.1 hb];unfold tM;rw[Kx aa];omega
  rw[Av,h4];show FG (u/10) (UInt8.ofNat (48+u%10))=u;unfold FG;rw[Kx aa];omega
def nb (n:Nat):List UInt8:=rX 20 n []
theorem uQ{n:Nat}(h:n<=1000000):(∀b∈nb n,tM b)/\(nb n).foldl FG 0=n:=by
 have hp:n<10 ^ (19+1):=Nat.lt_of_le_of_lt h ae;obtain⟨ds,h1,_,h3,h4⟩:=ai6 19 n [] hp;have e:nb n=ds:=by unfold nb;rw[h1,mR]
 rw[e];exact⟨h3,h4⟩
theorem UK(n:Nat):(ke (n:Int)).data.toList=nb n:=rfl
theorem OZ:∀ {x y:List UInt8} {c d:UInt8} {r q:List UInt8},(∀b∈x,tM b)->(∀b∈y,tM b)-> ¬tM c-> ¬tM d->x++c::r=y++d::q->x=y/\c=d/\r=q:=by
 intro x
 induction x with
 |nil=>
  intro y c d r q _ hy hc _ h;cases y with
  |nil=>cases h;exact⟨rfl,rfl,rfl⟩
  |cons b y=>exfalso;rw[nH,oI] at h;exact hc ((HP h).1▸hy b af)
 |cons a x ih=>
  intro y c d r q hx hy hc hd h;cases y with
  |nil=>exfalso;rw[nH,oI] at h;exact hd ((HP h).1▸hx a af)
  |cons b y=>rw[oI,oI] at h;obtain⟨e,h⟩:=HP h;obtain⟨h1,h2,h3⟩:=ih (fun b hb=>hx b (by simp[hb])) (fun b hb=>hy b (by simp[hb])) hc hd h;exact⟨by rw[e,h1],h2,h3⟩
def Gk(l:Let):Prop:= ∃a b c:Nat,a<=1000000/\b<=1000000/\c<=1000000/\((l.kind=1/\l.gate=a/\l.aE=b/\l.id=0/\l.sign=0/\l.over=false)\/(l.kind=2/\l.gate=0/\l.aE=0/\l.id=c/\(l.sign=1\/l.sign= -1)))
theorem aky{F:Nat}{L:List Let}(g:bQ F L):∀l∈L,Gk l:=by
 intro l hl;have hc:=g.len;have hF:=g.fing;have hb:=g.bad l hl;rcases AN hb with hp|hx
 .obtain⟨g0,g1,r0,r1⟩:=g.ok.ax.eQ l hl hp;have:=oU (vZ l.gate.toNat) L;obtain⟨⟨⟨_,hid⟩,hs⟩,ho⟩:=(xg hp).1 hb;simp only[cg] at r1;refine⟨l.gate.toNat,l.aE.toNat,0,aa,aa,aa,.inl ⟨dL.1 hp,aa,aa,hid,hs,ho⟩⟩
 obtain⟨i1,i2⟩:=g.ids.1 l hl hx;have:=oU Let.aG L;obtain⟨⟨h1,h2⟩,h3⟩:=(Vi hx).1 hb;refine⟨0,0,l.id.toNat,aa,aa,aa,.inr ⟨dL.1 hx,h1,h2,aa,?_⟩⟩;by_cases e:l.sign=1
 .exact .inl e
 by_cases e2:l.sign= -1
 .exact .inr e2
 simp[e,e2] at h3
def wl (l:Let):List UInt8:=(sK l).data.toList
theorem Io(a b:ByteArray):(a++b).data.toList=a.data.toList++b.data.toList:=by rw[ByteArray.data_append,N9]
theorem N4{l:Let}{a b:Nat}(h1:l.kind=1)(h2:l.gate=a)(h3:l.aE=b):wl l=nb a++46::nb b:=by unfold wl sK;rw[h1,h2,h3];show(ke (a:Int)++VR++ke (b:Int)).data.toList=_;rw[Io,Io,UK,UK];show nb a++[46]++nb b=_;simp
theorem NZ{l:Let}{c:Nat}(h1:l.kind=2)(h2:l.id=c)(h3:l.sign=1\/l.sign= -1):wl l=nb c++(if l.over then 111 else 117)::(if l.sign=1 then [43] else [45]):=by unfold wl sK;rw[h1,h2];show((ke (c:Int)++(if l.over then sO else sU))++(if l.sign==1 then sPl else if l.sign== -1 then sMi else sQu)).data.toList=_;rw[Io,Io,UK];rcases h3 with h|h<;>rw[h]<;>cases l.over<;>simp[sO,sU,sPl,sMi]
theorem nd:¬tM 46/\ ¬tM 111/\ ¬tM 117:=by unfold tM;decide
theorem atC{x y:Let}(hx:Gk x)(hy:Gk y)(h:wl x=wl y):x=y:=by
 obtain⟨a,b,c,ha,hb,hc,hx⟩:=hx;obtain⟨a',b',c',L9,qj,jT,hy⟩:=hy;obtain⟨n1,n2,n3⟩:=nd;have ext:∀a b:Let,a.kind=b.kind->a.gate=b.gate->a.aE=b.aE->a.id=b.id->a.sign=b.sign->a.over=b.over->a=b:=fun a b=>by cases a;cases b;simp only[Let.mk.injEq];intros;simp_all
 have no:∀o:Bool,¬tM (if o then 111 else 117):=fun o=>by cases o<;>assumption
 have ne:∀o:Bool,(46:UInt8)≠(if o then 111 else 117):=fun o=>by cases o<;>decide
 rcases hx with ⟨x1,x2,x3,x4,x5,x6⟩|⟨x1,x2,x3,x4,x5⟩<;>rcases hy with ⟨y1,y2,y3,y4,y5,y6⟩|⟨y1,y2,y3,y4,y5⟩
 .rw[N4 x1 x2 x3,N4 y1 y2 y3] at h;obtain⟨e1,_,e2⟩:=OZ (uQ ha).1 (uQ L9).1 n1 n1 h;have e3:a=a':=by rw[<- (uQ ha).2,<- (uQ L9).2,e1]
  have e4:b=b':=by rw[<- (uQ hb).2,<- (uQ qj).2,e2]
  exact ext _ _ (by rw[x1,y1]) (by rw[x2,y2,e3]) (by rw[x3,y3,e4]) (by rw[x4,y4]) (by rw[x5,y5]) (by rw[x6,y6])
 .rw[N4 x1 x2 x3,NZ y1 y4 y5] at h;exact absurd (OZ (uQ ha).1 (uQ jT).1 n1 (no _) h).2.1 (ne _)
 .rw[NZ x1 x4 x5,N4 y1 y2 y3] at h;exact absurd (OZ (uQ hc).1 (uQ L9).1 (no _) n1 h).2.1.symm (ne _)
 rw[NZ x1 x4 x5,NZ y1 y4 y5] at h;obtain⟨e1,e2,e3⟩:=OZ (uQ hc).1 (uQ jT).1 (no _) (no _) h;have e4:c=c':=by rw[<- (uQ hc).2,<- (uQ jT).2,e1]
 refine ext _ _ (by rw[x1,y1]) (by rw[x2,y2]) (by rw[x3,y3]) (by rw[x4,y4,e4]) ?_ ?_
 .rcases x5 with s|s<;>rcases y5 with u|u<;>rw[s,u] at e3 ⊢ <;>revert e3<;>decide
 revert e2;cases x.over<;>cases y.over<;>decide
theorem afO{x:Let}(hx:Gk x):∀b∈wl x,b≠32:=by
 obtain⟨a,b,c,ha,hb,hc,hx⟩:=hx;have aou:¬tM 32:=by unfold tM;decide
 have dg:∀z,z<=1000000->∀q∈nb z,q≠32:=fun z hz q hq e=>aou (e▸(uQ hz).1 q hq);rcases hx with ⟨x1,x2,x3,_⟩|⟨x1,_,_,x4,x5⟩
 .rw[N4 x1 x2 x3];intro q hq;rcases dZ.1 hq with h|h
  .exact dg a ha q h
  rcases cI.1 h with rfl|h
  .decide
  exact dg b hb q h
 rw[NZ x1 x4 x5];intro q hq;rcases dZ.1 hq with h|h
 .exact dg c hc q h
 rcases cI.1 h with rfl|h
 .cases x.over<;>decide
 split at h<;>(rw[lK.1 h];decide)
theorem ar8:∀ {x y r q:List UInt8},(∀b∈x,b≠32)->(∀b∈y,b≠32)->(r=[]\/ ∃t,r=32::t)->(q=[]\/ ∃t,q=32::t)->x++r=y++q->x=y/\r=q:=by
 intro x
 induction x with
 |nil=>
  intro y r q _ hy hr hq h;cases y with
  |nil=>exact⟨rfl,h⟩
  |cons b y=>
   exfalso;rw[nH,oI] at h;rcases hr with rfl|⟨t,rfl⟩
   .cases h
   exact hy b af (HP h).1.symm
 |cons a x ih=>
  intro y r q hx hy hr hq h;cases y with
  |nil=>
   exfalso;rw[nH,oI] at h;rcases hq with rfl|⟨t,rfl⟩
   .cases h
   exact hx a af (HP h).1
  |cons b y=>rw[oI,oI] at h;obtain⟨e,h⟩:=HP h;obtain⟨h1,h2⟩:=ih (fun b hb=>hx b (by simp[hb])) (fun b hb=>hy b (by simp[hb])) hr hq h;exact⟨by rw[e,h1],h2⟩
theorem atE:∀ {A B:List Let},(∀l∈A,Gk l)->(∀l∈B,Gk l)->(A.flatMap fun l=>32::wl l)=(B.flatMap fun l=>32::wl l)->A=B:=by
 have tl:∀X:List Let,(X.flatMap fun l=>32::wl l)=[]\/ ∃t,(X.flatMap fun l=>32::wl l)=32::t:=fun X=>by
  cases X with
  |nil=>exact .inl rfl
  |cons x X=>exact .inr ⟨_,by rw[DC,oI]⟩
 intro A
 induction A with
 |nil=>
  intro B _ _ h;cases B with
  |nil=>rfl
  |cons b B=>rw[DC,oI] at h;cases h
 |cons a A ih=>
  intro B hA hB h;cases B with
  |nil=>rw[DC,oI] at h;cases h
  |cons b B=>rw[DC,DC,oI,oI] at h;obtain⟨h1,h2⟩:=ar8 (afO (hA a af)) (afO (hB b af)) (tl A) (tl B) (HP h).2;rw[atC (hA a af) (hB b af) h1,ih (fun l h=>hA l (by simp[h])) (fun l h=>hB l (by simp[h])) h2]
theorem ad6(F:Int)(L:List Let):(sF F L).data.toList=(ke F++sCo).data.toList++L.flatMap fun l=>32::wl l:=by
 have key:∀(L:List Let) (s:ByteArray),(L.foldl (fun s l=>s++(Dm++sK l)) s).data.toList=s.data.toList++L.flatMap fun l=>32::wl l:=by
  intro L
  induction L with
  |nil=>intro s;simp
  |cons l L ih=>intro s;rw[uY,ih,Io,Io,DC];show s.data.toList++([32]++wl l)++_=_;simp
 exact key L _
theorem ap5{F:Nat}{A B:List Let}(hA:di (F:Int) A=0)(hB:di (F:Int) B=0)(h:sF (F:Int) A=sF (F:Int) B):A=B:=by
 have gl:∀X:List Let,di (F:Int) X=0->∀l∈X,Gk l:=fun X hX l hl=>by obtain⟨G,_,g⟩:=xM hX (af8 hl);exact aky g l hl
 have h2:(sF (F:Int) A).data.toList=(sF (F:Int) B).data.toList:=by rw[h]
 rw[ad6,ad6] at h2;exact atE (gl A hA) (gl B hB) (List.append_cancel_left h2)
abbrev nuT:Nat:=3
theorem ado(x:Let):aF S 101 [w7 x] (.one (aO nuT 1 (iP (rB x)))):=by
 have e:∀b:Bool,iP (rB x)=[[.int .i64 x.kind],[.int .i64 x.gate],[.int .i64 x.aE],[.int .i64 x.id],[.int .i64 (if x.over then 1 else 0)],[.int .i64 x.sign]]:=fun _=>rfl;rw[xQ (by rw[e true];simp),e true];refine aV c101 ?_;cases h:x.over with
 |true=>simp only[go_sem,i101,h];first|done|rfl
 |false=>simp only[go_sem,i101,h];first|done|rfl
theorem afl{α:Type}{a b:List α}{k:Nat}{x:α}(h:a.take k=b.take k)(hx:a[k]?=some x)(hy:b[k]?=some x):a.take (k+1)=b.take (k+1):=by rw[iu,iu,h,hx,hy]
theorem anY:∀ {k:Nat} {a b:List Int} {x y:Int},a.take k=b.take k->a[k]?=some x->b[k]?=some y->x≠y->qB a b=decide (x<y):=by
 intro k
 induction k with
 |zero=>
  intro a b x y _ hx hy aI;cases a with
  |nil=>cases hx
  |cons p a=>
   cases b with
   |nil=>cases hy
   |cons q b=>cases hx;cases hy;unfold qB;rw[ay aI]
 |succ k ih=>
  intro a b x y h hx hy aI;cases a with
  |nil=>cases hx
  |cons p a=>
   cases b with
   |nil=>cases hy
   |cons q b=>simp only[KV,As] at h;obtain⟨rfl,h⟩:=h;unfold qB;rw[aD rfl];exact ih h hx hy aI
theorem ahI:∀ {k:Nat} {a b:List Let} {x y:Let},a.take k=b.take k->a[k]?=some x->b[k]?=some y->leq x y=false->gI a b=ow x y:=by
 intro k
 induction k with
 |zero=>
  intro a b x y _ hx hy aI;cases a with
  |nil=>cases hx
  |cons p a=>
   cases b with
   |nil=>cases hy
   |cons q b=>cases hx;cases hy;unfold gI;rw[aI];rfl
 |succ k ih=>
  intro a b x y h hx hy aI;cases a with
  |nil=>cases hx
  |cons p a=>
   cases b with
   |nil=>cases hy
   |cons q b=>simp only[KV,As] at h;obtain⟨rfl,h⟩:=h;unfold gI;rw[zV,aD rfl];exact ih h hx hy aI
theorem anv(a b:List Int)(hl:a.length<=1000000)(dX:a.length=b.length):aF S 100 [.one (.p (.sl (iP a))),.one (.p (.sl (iP b)))] (rb (qB a b)):=by
 refine aV c100 ?_;simp only[go_sem,i100];refine cJ (fun k ak aj=>ak 0=.one (.p (.sl (iP a)))/\ak 1=.one (.p (.sl (iP b)))/\ak 5=vi k/\a.take k=b.take k) 0 a.length (bj _) ?_ ?_
 .simp only[go_sem];first|done|rfl
 rintro k ak aj hk ⟨h0,h1,h5,ht⟩
 by_cases aq:k<a.length
 .have aL:((k:Int)<(a.length:Int)):=aa;have alD:k<b.length:=aa;have w1:=bN (n:=k) aa;obtain⟨x,hx⟩:=aM aq;obtain⟨y,hy⟩:=aM alD;have iC:=yp hx;have hyp:=yp hy;by_cases he:x=y
  .subst he;have hs:=afl ht hx hy;simp only[go_sem,i100_l1,h0,h1,h5,aq,aL,iC,hyp,w1];first|done|exact⟨aK,hs⟩|exact⟨aK,aq,hs⟩|trace_state
  have hb:(x !=y)=true:=by simpa using he
  rw[anY ht hx hy he];simp only[go_sem,i100_l1,h0,h1,h5,aL,iC,hyp,hb];first|done|exact aK|exact⟨aK,aK⟩|exact⟨aK,aK,rfl⟩|trace_state
 have:k=a.length:=aa;subst this;have e:a=b:=by rw[dD (bJ _),dD aa] at ht;exact ht
 subst e;rw[anX];simp only[go_sem,i100_l1,i100_r2,h0,h5,dG];first|done|rfl
theorem anx(f g:Int)(A B:List Let)(hl:A.length<=1000000)(dX:A.length=B.length):aF S 57 [cZ f A,cZ g B] (rb (gI A B)):=by
 have iD:S.lone 3648320320=true:=ah;have kN:S.lone 3648320704=true:=ah;refine aV c57 ?_;simp only[go_sem,i57];refine cJ (fun k ak aj=>ak 2=.one (.aX 3648000000 1 0)/\ak 3=.one (.aX 3648000064 1 0)/\ak 5=vi k/\aj 3648000000=(1,some (.var (mh f A)))/\aj 3648000064=(1,some (.var (mh g B)))/\A.take k=B.take k) 0 A.length (bj _) ?_ ?_
 .simp only[go_sem];first|done|rfl
 rintro k ak aj hk ⟨h2,h3,h5,b0,b1,ht⟩
 by_cases aq:k<A.length
 .have aL:((k:Int)<(A.length:Int)):=aa;have T9:k<B.length:=aa;have w1:=bN (n:=k) aa;obtain⟨x,hx⟩:=aM aq;obtain⟨y,hy⟩:=aM T9;have iC:=fv hx;have hyp:=fv hy;have es:=IK x y;cases he:leq x y with
  |true=>rw[he] at es;have qx:=(Hf x y).1 he;subst qx;have hs:=afl ht hx hy;simp only[go_sem,i57_l1,h2,h3,h5,b0,b1,aq,aL,iC,hyp,Let.ps,w1,es];first|done|exact⟨aK,hs⟩|exact⟨aK,aq,hs⟩|trace_state
  |false=>rw[he] at es;have pn1:=ado x;have pn2:=ado y;have nx:(nE (iP (rB x))).norm=.sl (iP (rB x)):=Fv _;have ny:(nE (iP (rB y))).norm=.sl (iP (rB y)):=Fv _;have pl:=anv (rB x) (rB y) (by unfold rB;simp) rfl;rw[ahI ht hx hy he,Na];generalize qB (rB x) (rB y)=r at pl ⊢;generalize rB x=kx at*;generalize rB y=ky at*;simp only[go_sem,i57_l1,h2,h3,h5,b0,b1,aL,iC,hyp,Let.ps,es,s101,mH pn1 (Fb iD),mH pn2 (Fb kN),nx,ny,s100,kW pl];first|done|exact aK|exact⟨aK,aK⟩|exact⟨aK,aK,rfl⟩|trace_state
 have:k=A.length:=aa;subst this;have e:A=B:=by rw[dD (bJ _),dD aa] at ht;exact ht
 subst e;rw[ON];simp only[go_sem,i57_l1,i57_r2,h2,h5,b0,dG];first|done|rfl
theorem abb:∀ {k:Nat} {l:List Int} {x:Int},l[k]?=some x->x∉l.take k->l.idxOf x=k:=by
 intro k
 induction k with
 |zero=>
  intro l x h _;cases l with
  |nil=>cases h
  |cons a l=>cases h;rw[List.idxOf_cons_self]
 |succ k ih=>
  intro l x h hn;cases l with
  |nil=>cases h
  |cons a l=>
   simp only[KV,cI,Az] at hn;have e:(a==x)=false:=by rw[tF];exact fun e=>hn.1 e.symm
   rw[WS,e,cond_false,ih h hn.2]
def BN(l:List Int)(x:Int):Int:=if l.contains x then (l.idxOf x:Int) else -1
theorem XE(l:List Int)(x:Int)(hl:l.length<=1000000):aF S 98 [.one (.p (.sl (iP l))),vi x] (ri (BN l x)):=by
 generalize hr:BN l x=r;unfold BN at hr;refine aV c98 ?_;simp only[go_sem,i98];refine cJ (fun k ak aj=>ak 0=.one (.p (.sl (iP l)))/\ak 1=vi x/\ak 5=vi k/\x∉l.take k) 0 l.length (bj _) ?_ ?_
 .simp only[go_sem];first|done|simp|exact⟨rfl,af⟩
 rintro k ak aj hk ⟨h0,h1,h5,hn⟩
 by_cases aq:k<l.length
 .have aL:((k:Int)<(l.length:Int)):=aa;have w1:=bN (n:=k) aa;obtain⟨m,hm⟩:=aM aq;have tZ:=yp hm;by_cases he:m=x
  .subst he;have hc:l.contains m=true:=FP.2 (aW hm);rw[hc,aD rfl,abb hm hn] at hr;subst hr;simp only[go_sem,i98_l1,h0,h1,h5,aL,tZ];first|done|rfl
  have hb:(m==x)=false:=by simpa using he
  have wS:x∉l.take (k+1):=by
   rw[iu,hm];intro h;rcases dZ.1 h with h|h
   .exact hn h
   simp at h;exact he h.symm
  simp only[go_sem,i98_l1,h0,h1,h5,aq,aL,tZ,w1,hb];first|done|exact wS|exact⟨aq,wS⟩|trace_state
 have:k=l.length:=aa;subst this;rw[kE] at hn;have hc:l.contains x=false:=by
  cases h:l.contains x with
  |false=>rfl
  |true=>exact absurd (FP.1 h) hn
 rw[hc] at hr;have hr: -1=r:=hr;subst hr;simp only[go_sem,i98_l1,i98_r2,h0,h5,dG];first|done|rfl
def Dq(s:List Int)(x:Let):List Int:=if x.kind==2 then (if s.contains x.id then s else s++[x.id]) else s
def Bq(s:List Int)(x:Let):Let:=if x.kind==2 then (if s.contains x.id then {x with id:=((s.idxOf x.id+1:Nat):Int)} else {x with id:=((s.length+1:Nat):Int)}) else x
theorem VO(s:List Int)(x:Let)(r:List Let):jc s (x::r)=Bq s x::jc (Dq s x) r:=by
 unfold Bq Dq;rw[jc];by_cases h:(x.kind==2)=true
 .rw[aD h,aD h,aD h];by_cases h2:s.contains x.id=true
  .rw[aD h2,aD h2,aD h2]
  rw[ay h2,ay h2,ay h2]
 rw[ay h,ay h,ay h]
theorem aqq:∀(a b:List Let) (s:List Int),jc s (a++b)=jc s a++jc (a.foldl Dq s) b:=by
 intro a
 induction a with
 |nil=>intro b s;rfl
 |cons x r ih=>intro b s;rw[oI,VO,VO,ih];rfl
def vL(ls:List Let)(k:Nat):List Let:=jc [] (ls.take k)++ls.drop k
def yx(ls:List Let)(k:Nat):List Int:=(ls.take k).foldl Dq []
section
variable {ls:List Let} {k:Nat} {x:Let}
theorem aqE(ls:List Let)(k:Nat):(vL ls k).length=ls.length:=by unfold vL;rw[eG,Hv,<- eG,sQ]
theorem QU(hx:ls[k]?=some x):(jc [] (ls.take k)).length=k:=by have:=(bg.1 hx).1;rw[Hv,gT];omega
theorem aen(hx:ls[k]?=some x):ls.drop k=x::ls.drop (k+1):=by obtain⟨c1,c2⟩:=bg.1 hx;rw[<- DE c1,c2]
theorem aem(hx:ls[k]?=some x):(vL ls k)[k]?=some x:=by unfold vL;rw[yK (by rw[QU hx];exact bJ _),QU hx,HW,aen hx];rfl
theorem acU(hx:ls[k]?=some x):yx ls (k+1)=Dq (yx ls k) x:=by unfold yx;rw[iu,hx,Av];rfl
theorem aqF(hx:ls[k]?=some x):(vL ls k).set k (Bq (yx ls k) x)=vL ls (k+1):=by
 have e:jc [] (ls.take (k+1))=jc [] (ls.take k)++[Bq (yx ls k) x]:=by rw[iu,hx];show jc [] (ls.take k++[x])=_;rw[aqq,VO];rfl
 unfold vL;rw[e,WV _ _ (by rw[QU hx];exact bJ _),QU hx,HW,aen hx,uv];rfl
theorem aos(ls:List Let):∀k,(yx ls k).length<=k:=by
 intro k
 induction k with
 |zero=>exact bJ _
 |succ k ih=>
  by_cases hk:k<ls.length
  .obtain⟨x,hx⟩:=aM hk;rw[acU hx];unfold Dq;split
   .split
    .omega
    rw[eG];simp;omega
   omega
  unfold yx at ih ⊢;rw[dD aa] at ih ⊢;omega
end
theorem am2{aj:aw}{s:Nat}{x y:PV}{l:Bool}:land aj [] s ((RV.agg [.p x,.p y]).eD l)=some (.agg [.p x,.p y],[]):=by cases l<;>rfl
theorem aej(f:Int)(ls:List Let)(hl:ls.length<=1000000):aF S 53 [cZ f ls] (.agg [.p (.int .i64 f),aO gH 6 (aZ (iG ls))]):=by
 have pc:=Yx f ls hl;by_cases aI:ls=[]
 .subst aI;have pc:aF S 97 [.agg [.p (.int .i64 f),.p (.sl [])]] (.agg [.p (.int .i64 f),.p .nils]):=pc;refine aV c53 ?_;simp only[go_sem,i53,s97,cU pc am2];refine kG ?_;have z0:¬((0:Int)<((0:Nat):Int)):=ae;simp only[go_sem,i53_l1,i53_r2,z0];first|done|rfl
 have lo:S.lone 3392064064=false:=ah;refine aV c53 ?_;simp only[go_sem,i53,s97];refine LR pc lo rfl (Fz _) fun cc mF gc te=>?_;have q0:=te 3392000000 ae;have q1:=te 3392000064 ae;simp only[go_sem] at q0 q1;rcases gc with ⟨h,_⟩|⟨_,gg,e2,hC⟩
 .exact absurd (WU.1 h) aI
 cases e2;have hC:mF 3392064065=(gg,some (.arr gH 6 (aZ ls))):=hC;rw[CX];simp only[go_sem];obtain⟨g1,zy⟩:∃g1,(mF 3392064128).1+1=g1:=⟨_,rfl⟩;rw[zy];refine cJ (fun k ak aj=>ak 1=.one (.aX 3392000000 1 0)/\ak 2=.one (.aX 3392000064 1 0)/\ak 3=.one (.aX 3392064128 g1 0)/\ak 5=vi k/\aj 3392000000=(1,some (.var (mh f ls)))/\aj 3392000064=(1,some (.var [.p (.int .i64 0),.p .nils]))/\aj 3392064128=(g1,some (.var [.p (.int .i64 f),.hsl 3392064065 gg 6 0 ls.length]))/\aj 3392064065=(gg,some (.arr gH 6 (aZ (vL ls k))))/\ ∃c,ak 4=.one c/\grown 3392512512 nuT 1 (iP (yx ls k)) (.one c) aj) 0 ls.length (bj _) ?_ ?_
 .simp only[go_sem,q0,q1,hC];have e0:vL ls 0=ls:=rfl;rw[e0];repeat' apply And.intro
  all_goals first|rfl|exact⟨_,rfl,grown.nil⟩
 rintro k ak aj hk ⟨h1,h2,h3,h5,b0,b1,b2,b3,c,h4,gm⟩
 by_cases aq:k<ls.length
 .have aL:((k:Int)<(ls.length:Int)):=aa;have w1:=bN (n:=k) aa;obtain⟨x,hx⟩:=aM aq;have iC:=fv (aem hx);have EU:=fv hx;have iW:k<(vL ls k).length:=by rw[aqE];exact aq
  have r8:=acU hx;have gK:=aqF hx;have lT:=aos ls k;have hWk:=aem hx;generalize vL ls k=W at*;generalize yx ls k=s at*;cases nM:(x.kind==2) with
  |false=>
   have Pp:(x.kind !=2)=true:=by rw[bne,nM];rfl
   have es:yx ls (k+1)=s:=by rw[r8];unfold Dq;rw[nM];rfl
   have eW:vL ls (k+1)=W:=by
    rw[<- gK];have e:Bq s x=x:=by unfold Bq;rw[nM];rfl
    rw[e];apply Au;intro j;rw[mC];by_cases e:k=j
    .subst e;rw[aD rfl,aD iW,hWk]
    rw[ay e]
   simp only[go_sem,i53_l1,h1,h2,h3,h4,h5,b0,b1,b2,b3,aq,aL,iC,Let.ps,Pp,w1];rw[es,eW];first|exact⟨rfl,_,rfl,gm⟩|exact⟨aq,rfl,_,rfl,gm⟩|trace_state
  |true=>
   have Pp:(x.kind !=2)=false:=by rw[bne,nM];rfl
   obtain⟨rd,sn,nY⟩:=gm.Aj;have pa:=XE s x.id aa;cases hc:s.contains x.id with
   |true=>
    have ea:BN s x.id=(s.idxOf x.id:Int):=by unfold BN;rw[hc,aD rfl]
    rw[ea] at pa;have r6:s.idxOf x.id<=s.length:=List.idxOf_le_length;have nlt:¬((s.idxOf x.id:Int)<0):=aa;have w2:=bN (n:=s.idxOf x.id) aa;have es:yx ls (k+1)=s:=by rw[r8];unfold Dq;rw[nM,hc];rfl
    have ey:Bq s x={x with id:=((s.idxOf x.id+1:Nat):Int)}:=by unfold Bq;rw[nM,hc];rfl
    rw[ey] at gK;generalize s.idxOf x.id=ix at*;simp only[go_sem,i53_l1,h1,h2,h3,h4,h5,b0,b1,b2,b3,aq,aL,iC,EU,Let.ps,Pp,w1,w2,sn,s98,dJ pa,gV pa,nlt];rw[es,<- gK];refine⟨?_,?_⟩
    .rcases nY with rfl|rfl<;>kernel_rfl
    rw[Ql _ _ {x with id:=((ix+1:Nat):Int)} (by simp[Let.ps])];first|exact⟨rfl,_,rfl,gm.of_eq (by simp only[aN,Nat.reduceEqDiff,if_false])⟩|exact⟨aq,rfl,_,rfl,gm.of_eq (by simp only[aN,Nat.reduceEqDiff,if_false])⟩|trace_state
   |false=>
    have ea:BN s x.id= -1:=by unfold BN;rw[hc];rfl
    rw[ea] at pa;have lt0:(-1:Int)<0:=ae;have tq:x.id∉s:=fun h=>by have:=FP.2 h;rw[hc] at this;cases this
    have es:yx ls (k+1)=s++[x.id]:=by rw[r8];unfold Dq;rw[nM,hc];rfl
    have ey:Bq s x={x with id:=((s.length+1:Nat):Int)}:=by unfold Bq;rw[nM,hc];rfl
    have pa2:=XE (s++[x.id]) x.id (by simp;omega);have ea2:BN (s++[x.id]) x.id=(s.length:Int):=by unfold BN;have lS:(s++[x.id]).contains x.id=true:=FP.2 af;rw[lS,aD rfl,abb (k:=s.length) af (by rw[KU];exact tq)]
    rw[ea2] at pa2;have w2:=bN (n:=s.length) aa;rw[ey] at gK;simp only[go_sem,i53_l1,h3,h4,h5,b2,b3,aq,aL,iC,Let.ps,Pp,sn,s98,dJ pa,lt0];refine ni (id:=3392512512) (site:=3392512512) (es:=iP s) (xs:=[[.int .i64 x.id]]) (gm.of_eq (by simp only[aN,Nat.reduceEqDiff,if_false])) (by simp only[ed,aN,if_true];rfl) (.inl rfl) (by simp only[pK,cS,eE];omega) fun c2 ba xO aT=>?_
    rw[show iP s++[[.int .i64 x.id]]=iP (s++[x.id]) by simp[iP]] at xO;have d0:=aT 3392000000 ae ae;have d1:=aT 3392000064 ae ae;have d2:=aT 3392064128 ae ae;have d3:=aT 3392064065 ae ae;simp only[go_sem,b0,b1,b2,b3] at d0 d1 d2 d3;obtain⟨rd2,sn2,al9⟩:=xO.Aj;simp only[go_sem,h1,h2,h3,h5,d0,d1,d2,d3,aq,iC,EU,Let.ps,w1,w2,sn2,s98,gV pa2];rw[es,<- gK];refine⟨?_,?_⟩
    .rcases al9 with rfl|rfl<;>kernel_rfl
    rw[Ql _ _ {x with id:=((s.length+1:Nat):Int)} (by simp[Let.ps])];first|exact⟨rfl,_,rfl,xO.of_eq (by simp only[aN,Nat.reduceEqDiff,if_false])⟩|exact⟨aq,rfl,_,rfl,xO.of_eq (by simp only[aN,Nat.reduceEqDiff,if_false])⟩|trace_state
 have Mu:k=ls.length:=aa;subst Mu;have eW:vL ls ls.length=iG ls:=by unfold vL iG;rw[kE,RP,mR]
 rw[eW] at b3;have hrl:(iG ls).length=ls.length:=yD ls;simp only[go_sem,i53_l1,i53_r2,h2,h3,h5,b1,b2,dG];refine Em (.inr ⟨fun e=>aI (DG.1 (by rw[<- hrl,<- CX,e];rfl)),gg,by rw[CX,hrl],?_⟩);simp only[aN,Nat.reduceEqDiff,if_false];exact b3
theorem asm(f:Int)(ls:List Let)(i:Nat)(hi:i<ls.length)(hl:ls.length<=1000000):aF S 56 [cZ f ls,vi i] (.agg [.p (.int .i64 f),aO gH 6 (aZ (dY ls i))]):=by
 have r6:i<=ls.length:=aa;have sz:=yF ls;have t1:(List.drop i (aZ ls)).take (ls.length-i)=aZ (ls.drop i):=by rw[dD (by rw[lX,CX];exact bJ _)];exact KP.symm
 have t2:List.take i (aZ ls)=aZ (ls.take i):=KQ.symm;refine aV c56 ?_;simp only[go_sem,i56,CX,r6,sz,t1];refine mZ (id:=3584064384) (site:=3584064384) (bytes:=48) grown.nil (xs:=aZ (ls.drop i)) (rd:=[]) rfl (.inr (yF _)) (by simp;omega) fun c1 cn r1 w1 g1 cq Bc=>?_;have q0:=cq 3584000000 ae ae;have q1:=cq 3584000064 ae ae;simp only[go_sem] at q0 q1;rw[nH] at g1;simp only[go_sem,q0,CX,r6,sz,t2];refine mZ (id:=3584064384) (site:=3584064704) (bytes:=48) g1 (xs:=aZ (ls.take i)) (rd:=[]) rfl (.inr (yF _)) (by simp;omega) fun c2 ba r2 w2 g2 aT vC=>?_
 have p1:=aT 3584000064 ae ae;simp only[go_sem,q1] at p1;rw[show aZ (ls.drop i)++aZ (ls.take i)=aZ (dY ls i) by unfold dY;rw[U0]] at g2;simp only[go_sem,p1];refine⟨?_,Em (g2.of_eq (by simp only[aN,Nat.reduceEqDiff,if_false]))⟩;rcases Bc with ⟨rfl,rfl⟩|⟨rfl,rfl⟩|⟨rfl,rfl⟩<;>rcases vC with ⟨rfl,rfl⟩|⟨rfl,rfl⟩|⟨rfl,rfl⟩<;>kernel_rfl
def v7(ls:List Let):List Bool:=(List.range ls.length).map fun j=> !dn ls (ls.length-1-j)
theorem XQ(ls:List Let):(v7 ls).length=ls.length:=by simp[v7]
theorem XP{ls:List Let}{k:Nat}(h:k<ls.length):(v7 ls)[k]?=some (!dn ls (ls.length-1-k)):=by unfold v7;rw[fT,rO h];rfl
theorem ael{ls:List Let}{k:Nat}(h:k<ls.length):ls.reverse[k]?=ls[ls.length-1-k]? :=Oi h
theorem asl(ls:List Let):sJ ls.reverse (v7 ls)=oR ls:=by
 have e:HB ls.reverse (v7 ls)=(List.range ls.length).find? (F3 ls):=by
  unfold HB;rw[lJ];refine find_congr fun k hk=>?_;have hk:=fg.1 hk;have hr:k<ls.reverse.length:=by rw[lJ];exact hk
  have hx:=nC hr;have hj:ls.length-1-k<ls.length:=aa;unfold FH F3;rw[hx,XP hk];simp only;have hd:(jD ls).getD (ls.length-1-k) false=iz ls (ls.length-1-k):=by unfold jD;rw[cY,fT,rO hj];rfl
  rw[hd];unfold iz;rw[ael hk] at hx;rw[hx];simp only;cases hq:((lA ls.reverse k).kind==1) with
  |false=>rfl
  |true=>have:(lA ls.reverse k).aJ=true:=hq;rw[this];rfl
 unfold sJ oR;rw[e];cases (List.range ls.length).find? (F3 ls)<;>rfl
theorem ahD(f:Int)(ls:List Let)(hl:ls.length<=1000000):aF S 54 [cZ f ls] (.agg [.p (.int .i64 f),aO gH 6 (aZ (oR ls))]):=by
 have lo:S.lone 3456512128=false:=ah;have ps:=aeM f ls.reverse (v7 ls) (by rw[lJ];exact hl) (by rw[XQ,lJ]);rw[asl] at ps;have w0:IntKind.i64.wrap ((ls.length:Int)-1)=(ls.length:Int)-1-((0:Nat):Int):=by rw[rM aa aa];omega
 refine aV c54 ?_;simp only[go_sem,i54,w0];refine cJ (fun k ak aj=>ak 1=.one (.aX 3456000000 1 0)/\ak 2=.one (.aX 3456000064 1 0)/\ak 3=.one (.aX 3456064192 1 0)/\ak 5=.one (.p (.int .i64 ((ls.length:Int)-1-(k:Int))))/\aj 3456000000=(1,some (.var (mh f ls)))/\aj 3456000064=(1,some (.var [.p (.int .i64 0),.p .nils]))/\ ∃c d,aj 3456064192=(1,some (.var [.p (.int .i64 f),c]))/\ak 4=.one d/\grown 3456384512 gH 6 (aZ (ls.reverse.take k)) (.one c) aj/\grown 3456448384 4 1 (bP ((v7 ls).take k)) (.one d) aj) 0 ls.length (bj _) ?_ ?_
 .simp only[go_sem];repeat' apply And.intro
  all_goals first|rfl|exact⟨_,_,rfl,rfl,grown.nil,grown.nil⟩
 rintro k ak aj hk ⟨h1,h2,h3,h5,b0,b1,c,d,b2,h4,gc,gd⟩
 by_cases aq:k<ls.length
 .have e5:(ls.length:Int)-1-(k:Int)=((ls.length-1-k:Nat):Int):=aa;rw[e5] at h5;have jU:(0:Int)<=((ls.length-1-k:Nat):Int):=aa;have w1:IntKind.i64.wrap (((ls.length-1-k:Nat):Int)-1)=(ls.length:Int)-1-((k+1:Nat):Int):=by rw[rM aa aa];omega
  have hj:ls.length-1-k<ls.length:=aa;obtain⟨x,hx⟩:=aM hj;have iC:=fv hx;have pd:=Ga f ls (ls.length-1-k) hl aa;have mv:ls.reverse.take (k+1)=ls.reverse.take k++[x]:=by rw[iu,ael aq,hx];rfl
  have hdk:(v7 ls).take (k+1)=(v7 ls).take k++[!dn ls (ls.length-1-k)]:=by rw[iu,XP aq];rfl
  generalize dn ls (ls.length-1-k)=dv at*;generalize ls.length-1-k=j at*;simp only[go_sem,i54_l1,h1,h3,h5,b0,b2,jU,iC,Let.ps];refine mZ (id:=3456384512) (site:=3456384512) (bytes:=48) (es:=aZ (ls.reverse.take k)) (gc.of_eq (by simp only[aN,Nat.reduceEqDiff,if_false])) (xs:=[x.ps]) (rd:=[3456384448]) (by simp only[ed,aN,if_true];rfl) (.inl rfl) (by simp;omega) fun c1 cn r1 wr1 g1 cq Bc=>?_
  rw[show aZ (ls.reverse.take k)++[x.ps]=aZ (ls.reverse.take (k+1)) by rw[mv];simp] at g1;have d0:=cq 3456000000 ae ae;have d1:=cq 3456000064 ae ae;have d2:=cq 3456064192 ae ae;have d3:=cq 3456448384 ae ae;simp only[go_sem,b0,b1,b2] at d0 d1 d2 d3;have gd1:=gd.of_eq d3;simp only[go_sem,h1,h3,h4,h5,d0,d2];refine⟨?_,?_⟩
  .rcases Bc with ⟨rfl,rfl⟩|⟨rfl,rfl⟩|⟨rfl,rfl⟩<;>kernel_rfl
  simp only[go_sem,s55,bh pd];refine ni (id:=3456448384) (site:=3456448384) (es:=bP ((v7 ls).take k)) (xs:=[[.bool (!dv)]]) (gd1.of_eq (by simp only[aN,Nat.reduceEqDiff,if_false])) (by simp only[ed,aN,if_true];rfl) (.inl rfl) (by simp;omega) fun d2' ba g2 aT=>?_;rw[show bP ((v7 ls).take k)++[[.bool (!dv)]]=bP ((v7 ls).take (k+1)) by rw[hdk];simp] at g2;have f0:=aT 3456000000 ae ae;have f1:=aT 3456000064 ae ae;have f2:=aT 3456064192 ae ae;have f3:=aT 3456384512 ae ae;simp only[go_sem,d0,d1,d2] at f0 f1 f2 f3;simp only[go_sem,h1,h2,h3,h5,f0,f1,f2,w1];exact⟨aq,c1,d2',rfl,rfl,g1.of_eq f3,g2⟩
 have Mu:k=ls.length:=aa;subst Mu;have jU:¬(0:Int)<=(ls.length:Int)-1-(ls.length:Int):=aa;rw[dD (by rw[lJ];exact bJ _)] at gc;rw[dD (by rw[XQ];exact bJ _)] at gd;obtain⟨rc,snc,_⟩:=gc.Aj;obtain⟨rd,snd,_⟩:=gd.Aj;simp only[go_sem,i54_l1,i54_r2,h3,h4,h5,b2,jU,snc,snd,s99];refine LR ps lo rfl (Fz _) fun cc fN g3 ef=>?_;have m1:=ef 3456000064 ae;simp only[go_sem,b1] at m1;simp only[go_sem,h2,m1];exact Em (g3.of_eq (by simp only[aN,Nat.reduceEqDiff,if_false]))
def stN(l:List Let)(z:List Let)(i:Nat):List Let:=if wz l i&&gI (iG (dY l i)) z then iG (dY l i) else z
def jQ(z l:List Let)(n:Nat):List Let:=(List.range n).foldl (stN l) z
theorem Tb(z l:List Let)(n:Nat):jQ z l (n+1)=stN l (jQ z l n) n:=by unfold jQ;rw[uZ,Av];rfl
theorem Zd{z l:List Let}(h:z.length=l.length):∀n,(jQ z l n).length=l.length:=by
 intro n
 induction n with
 |zero=>exact h
 |succ n ih=>
  rw[Tb];unfold stN;split
  .rw[yD,Ag]
  exact ih
def wy(ls:List Let):List Let:=jQ (jQ (iG ls) ls ls.length) (oR ls) ls.length
theorem JF{aj:aw}{s ty z:Nat}{x:PV}{es:List (List PV)}(lo:S.lone s=true):land aj [] s ((RV.agg [.p x,aO ty z es]).eD (S.lone s))=some (.agg [.p x,.p (nE es)],[]):=by
 rw[lo];unfold aO nE;by_cases h:es=[]
 .rw[aD h,aD h];rfl
 rw[ay h,ay h];rfl
theorem ajD(l:List Let)(i:Nat):wz l i=(((lA l i).kind==1)&&dn l i):=by unfold wz dn;congr 1
section
variable {F:Nat} {ls:List Let}
theorem adn{X z:List Let}(hX:X.length<=400)(hz:z.length=X.length){g:Nat}{ak:Env}{aj:aw}{Q:dy}(f3:ak 3=.one (.aX 1600064128 1 0))(f6:ak 6=.one (.aX 1600384256 g 0))(f7:ak 7=vi 0)(b3:aj 1600064128=(1,some (.var [.p (.int .i64 F),.p (nE (aZ z))])))(b6:aj 1600384256=(g,some (.var [.p (.int .i64 F),.p (cQ X)])))
  (hQ:∀aA ao,aA 2=ak 2->aA 3=ak 3->aA 4=ak 4->aA 5=ak 5->ao 1600064128=(1,some (.var [.p (.int .i64 F),.p (nE (aZ (jQ z X X.length)))]))->ao 1600000064=aj 1600000064->ao 1600128192=aj 1600128192->Q .normal aA ao):W S .all (.loop i25_l1) (lN 2 Q) ak aj:=by
 have iD:S.lone 1600704128=true:=ah;have kN:S.lone 1600704192=true:=ah;refine cJ (fun i aA ao=>aA 2=ak 2/\aA 3=ak 3/\aA 4=ak 4/\aA 5=ak 5/\aA 6=.one (.aX 1600384256 g 0)/\aA 7=vi i/\ao 1600064128=(1,some (.var [.p (.int .i64 F),.p (nE (aZ (jQ z X i)))]))/\ao 1600384256=(g,some (.var [.p (.int .i64 F),.p (cQ X)]))/\ao 1600000064=aj 1600000064/\ao 1600128192=aj 1600128192) 0 X.length (bj _) ⟨rfl,rfl,rfl,rfl,f6,f7,b3,b6,rfl,rfl⟩ ?_;rintro i aA ao hi ⟨g2,g3,g4,g5,g6,g7,c3,c6,c64,c12⟩
 have g3':=g3.trans f3;by_cases aq:i<X.length
 .have aL:((i:Int)<(X.length:Int)):=aa;have w1:=bN (n:=i) aa;have hx:=nC aq;have iC:=fv hx;have hs:=Tb z X i;have lT:=Zd hz i;have dR:=ajD X i;unfold stN at hs;rw[dR] at hs;cases hk:((lA X i).kind==1) with
  |false=>
   rw[hk] at hs;have hs:jQ z X (i+1)=jQ z X i:=hs;simp only[go_sem,i25_l1,g3',g6,g7,c3,c6,aq,aL,iC,Let.ps,hk,w1];rw[hs];repeat' apply And.intro
   all_goals first|assumption|rfl|exact f3.symm
  |true=>
   have pd:=Ga (F:Int) X i aa aa;rw[hk] at hs;cases hd:dn X i with
   |false=>
    rw[hd] at pd hs;have hs:jQ z X (i+1)=jQ z X i:=hs;simp only[go_sem,i25_l1,g3',g6,g7,c3,c6,aq,aL,iC,Let.ps,hk,s55,bh pd,w1];rw[hs];repeat' apply And.intro
    all_goals first|assumption|rfl|exact f3.symm
   |true=>
    rw[hd] at pd hs;have pst:=asm (F:Int) X i aq aa;have prn:=aej (F:Int) (dY X i) (by rw[Ag];omega);have plt:=anx (F:Int) (F:Int) (iG (dY X i)) (jQ z X i) (by rw[yD,Ag];omega) (by rw[yD,Ag,lT]);have n1:=Fv (aZ (dY X i));have n2:=Fv (aZ (iG (dY X i)));have n3:=Fv (aZ (jQ z X i));generalize jQ z X i=z0 at*;generalize iG (dY X i)=y at*;generalize dY X i=r at*;cases hb:gI y z0 with
    |false=>
     rw[hb] at plt hs;have hs:jQ z X (i+1)=z0:=hs;simp only[go_sem,i25_l1,g3',g6,g7,c3,c6,aq,aL,iC,Let.ps,hk,s55,bh pd,s56,cU pst (JF iD),n1,s53,cU prn (JF kN),n2,n3,s57,bh plt,w1];rw[hs];repeat' apply And.intro
     all_goals first|assumption|rfl|exact f3.symm
    |true=>
     rw[hb] at plt hs;have hs:jQ z X (i+1)=y:=hs;simp only[go_sem,i25_l1,g3',g6,g7,c3,c6,aq,aL,iC,Let.ps,hk,s55,bh pd,s56,cU pst (JF iD),n1,s53,cU prn (JF kN),n2,n3,s57,bh plt,w1];rw[hs];repeat' apply And.intro
     all_goals first|assumption|rfl|exact f3.symm
 have iT:i=X.length:=aa;subst iT;simp only[go_sem,i25_l1,g6,g7,c6,dG];refine hQ _ _ ?_ ?_ ?_ ?_ c3 c64 c12;all_goals(simp only[go_sem];assumption)
theorem Vh(hl:ls.length<=400):aF S 25 [cZ F ls] (.agg [.p (.int .i64 F),.p (nE (aZ (wy ls)))]):=by
 have iD:S.lone 1600064064=true:=ah;have kN:S.lone 1600128128=true:=ah;have prn:=aej (F:Int) ls aa;have pbk:=ahD (F:Int) ls aa;have vl:=Im ls;have nb:=Fv (aZ (oR ls));refine aV c25 ?_;simp only[go_sem,i25,s53,cU prn (JF iD),s54,mH pbk (JF kN),nb];refine⟨aK,?_⟩;have Bc:IntKind.i64.wrap 1=1:=ae;have vC:IntKind.i64.wrap 2=2:=ae;have l1':(1:Int)<2:=ae;have l2':¬(2:Int)<2:=ae;refine kG ?_;simp only[go_sem,i25_l3];refine adn (F:=F) (X:=ls) (z:=iG ls) (g:=1) hl (yD ls) ?_ ?_ ?_ ?_ ?_ fun ft cn e2 e3 e4 e5 c3 c64 c12=>?_
 any_goals first|rfl|(simp only[go_sem];done)
 simp only[go_sem] at e2 e3 e4 e5 c64 c12;simp only[go_sem,i25_r2,e5,Bc];refine kG ?_;simp only[go_sem,e4,e5,c12,l1'];refine adn (F:=F) (X:=oR ls) (z:=jQ (iG ls) ls ls.length) (g:=(cn 1600384256).1+1) aa (by rw[Zd (yD ls),vl]) ?_ ?_ ?_ ?_ ?_ fun dp ba d2 d3 d4 d5 f3 f64 f12=>?_
 any_goals first|rfl|(simp only[go_sem,e3,c3];done)
 simp only[go_sem,e2,e3,e4,c64] at d2 d3 d4 d5 f64;rw[vl] at f3;have f3:ba 1600064128=(1,some (.var [.p (.int .i64 F),.p (nE (aZ (wy ls)))])):=f3;simp only[go_sem,d5,vC];refine kG ?_;simp only[go_sem,i25_r4,d2,d3,d5,f3,f64,l2'];first|done|rfl|trace_state
theorem Ze{z l:List Let}{n m:Nat}(hz:z.length=m)(hl:l.length=m):∀n,(jQ z l n).length=m/\(jQ z l n=z\/ ∃i,i<n/\wz l i=true/\jQ z l n=iG (dY l i))/\gI z (jQ z l n)=false/\ ∀i,i<n->wz l i=true->gI (iG (dY l i)) (jQ z l n)=false:=by
 intro n
 induction n with
 |zero=>exact⟨hz,.inl rfl,ON _,fun i h=>absurd h (mT _)⟩
 |succ n ih=>
  obtain⟨h0,h1,h2,h3⟩:=ih;rw[Tb];unfold stN;by_cases hc:(wz l n&&gI (iG (dY l n)) (jQ z l n))=true
  .rw[aD hc];rw[cN] at hc;have tr:∀y,gI y (jQ z l n)=false->gI y (iG (dY l n))=false:=fun y hy=>by
    cases hb:gI y (iG (dY l n)) with
    |false=>rfl
    |true=>rw[OO hb hc.2] at hy;cases hy
   refine⟨by rw[yD,Ag,hl],.inr ⟨n,aa,hc.1,rfl⟩,tr _ h2,fun i hi he=>?_⟩;by_cases e:i=n
   .subst e;exact ON _
   exact tr _ (h3 i aa he)
  rw[ay hc];refine⟨h0,?_,h2,fun i hi he=>?_⟩
  .rcases h1 with h1|⟨i,a,b,c⟩
   .exact .inl h1
   exact .inr ⟨i,aa,b,c⟩
  by_cases e:i=n
  .subst e;cases hb:gI (iG (dY l i)) (jQ z l i) with
   |false=>rfl
   |true=>exact absurd (by rw[he,hb];rfl) hc
  exact h3 i aa he
theorem Tc(g:bQ F ls):wy ls=dK ls:=by
 obtain⟨hn,hf,PI⟩:=g.Fk;obtain⟨a0,a1,a2,a3⟩:=Ze (z:=iG ls) (l:=ls) (n:=0) (yD ls) rfl ls.length;obtain⟨b0,b1,b2,b3⟩:=Ze (z:=jQ (iG ls) ls ls.length) (l:=oR ls) (n:=0) a0 (Im ls) ls.length;have cand:∀y,Gi ls y->gI y (wy ls)=false:=by
  intro y hy;have hy:=(F5 g.even).2 hy;unfold yZ at hy;rcases dZ.1 hy with h|h
  .obtain⟨i,hi,e⟩:=HQ.1 h;split at e
   case isFalse=>cases e
   rename_i he;cases e;cases hb:gI (iG (dY ls i)) (wy ls) with
   |false=>rfl
   |true=>
    exfalso;have h1:=a3 i (fg.1 hi) he;cases hc:gI (wy ls) (jQ (iG ls) ls ls.length) with
    |true=>rw[OO hb hc] at h1;cases h1
    |false=>have e:jQ (iG ls) ls ls.length=wy ls:=SD (a0.trans b0.symm) b2 hc;rw[e,hb] at h1;cases h1
  obtain⟨i,hi,e⟩:=HQ.1 h;split at e
  case isFalse=>cases e
  rename_i he;cases e;exact b3 i (fg.1 hi) he
 have h0:iG ls∈yZ ls:=by have hp:0<ls.length:=jl.2 g.ne;refine FR _ (HQ.2 ⟨0,fg.2 hp,?_⟩);rw[(Th hp).2 g.abk,aD rfl];rw[show dY ls 0=ls by unfold dY;simp]
 have hM:jQ (iG ls) ls ls.length∈yZ ls:=by
  rcases a1 with h|⟨i,hi,he,h⟩
  .rw[h];exact h0
  rw[h];refine FR _ (HQ.2 ⟨i,fg.2 hi,?_⟩);rw[he,aD rfl]
 have hD:wy ls∈yZ ls:=by
  have b1:wy ls=jQ (iG ls) ls ls.length\/ ∃i,i<ls.length/\wz (oR ls) i=true/\wy ls=iG (dY (oR ls) i):=b1;rcases b1 with h|⟨i,hi,he,h⟩
  .rw[h];exact hM
  rw[h];refine Ol _ (HQ.2 ⟨i,fg.2 hi,?_⟩);rw[he,aD rfl]
 have gE:(wy ls).length=ls.length:=b0;have lk:(dK ls).length=ls.length:=OT ((F5 g.even).2 hf);exact SD (gE.trans lk.symm) (PI _ ((F5 g.even).1 hD)) (cand _ hf)
end
end Go.Abs
