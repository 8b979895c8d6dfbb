/-
  EaseReduces: for every code the call returns true and the argument reads as it did. It holds for every input that the row speaks of; the tables that the row lists hold what the text lays.
-/
import Derived.Test.YtfhejdojdajpmaaGreatDoorDc
import Derived.Test.YtfhejdojdajpmaaGreatDoorRd
import Derived.Test.YtfhejdojdajpmaaGreatDoorTie
import Derived.Deep.DeepHandedRow
import Derived.Deep.DeepLaidRun
import Derived.Stop.LaidErr
import Derived.Test.YtfhejdojdajpmaaGreatDoorSb
import Derived.Test.YtfhejdojdajpmaaGreatDoorTa
import Derived.Test.YtfhejdojdajpmaaGreatDoorFa
import Derived.Test.YtfhejdojdajpmaaGreatDoorGa
set_option linter.all false
set_option maxRecDepth 100000
set_option maxHeartbeats 16000000
namespace Go.Abs
theorem Yv(f:Int)(A B:List Let)(hA:A.length<=1000000)(hB:B.length<=1000000):aJ S 7 [cY f A,cY f B] (rb (decide (A=B))):=by
 by_cases hl:A.length=B.length
 .have e1:((A.length:Int)!=(B.length:Int))=false:=by rw[hl];simp
  refine bc c7 ?_;simp only[go_sem,i7,e1];refine cS (fun k ak aj=>ak 2=.one (.ba 448000000 1 0)/\ak 3=.one (.ba 448000064 1 0)/\ak 5=vi k/\aj 448000000=(1,some (.var (n9 f A)))/\aj 448000064=(1,some (.var (n9 f B)))/\A.take k=B.take k) 0 A.length (bn _) ?_ ?_
  .simp only[go_sem];first|done|rfl
  rintro k ak aj hk ⟨h2,h3,h5,b0,b1,ht⟩
  by_cases au:k<A.length
  .have aL:((k:Int)<(A.length:Int)):=aa;have akS:k<B.length:=aa;have w1:=bQ (n:=k) aa;obtain⟨x,hx⟩:=aN au;obtain⟨y,hy⟩:=aN akS;have qG:=gE hx;have hyp:=gE hy;have es:=aiZ x y;cases he:leq x y with
   |true=>
    rw[he] at es;have jD:=(amw x y).1 he;have Hn:A.take (k+1)=B.take (k+1):=by rw[iw,iw,ht,hx,hy,jD]
    simp only[go_sem,i7_l1,h2,h3,h5,b0,b1,au,aL,qG,hyp,Let.ps,w1,es];first|done|exact aH|exact⟨aH,rfl⟩|exact⟨aH,Hn⟩|exact⟨aH,rfl,Hn⟩|exact⟨Hn,aH⟩|trace_state
   |false=>
    rw[he] at es;have aM:decide (A=B)=false:=DG fun e=>by subst e;rw[hx] at hy;cases hy;rw[acu] at he;cases he
    rw[aM];simp only[go_sem,i7_l1,h2,h3,h5,b0,b1,aL,qG,hyp,Let.ps,es];first|done|exact aH|exact⟨aH,rfl⟩|trace_state
  have:k=A.length:=aa;subst this;have he:decide (A=B)=true:=BP (by rw[eY (cA _),eY aa] at ht;exact ht);rw[he];simp only[go_sem,i7_l1,i7_r2,h2,h5,b0,dI];first|done|rfl
 have e1:((A.length:Int)!=(B.length:Int))=true:=by simp;omega
 have aM:decide (A=B)=false:=DG fun e=>hl (by rw[e]);rw[aM];refine bc c7 ?_;simp only[go_sem,i7,e1];first|done|rfl
theorem S9{α:Type}(f:Nat->List α)(k:Nat):(List.range k++[k]).flatMap f=(List.range k).flatMap f++f k:=by rw[List.flatMap_append];simp
def ru(k:Int)(v:Nat->Nat->Nat->Int)(a b c:Nat):List aU:=if v a b c=0 then [⟨k,a,b,c,false,false,0⟩] else []
def Bm(nc:Nat)(k:Int)(v:Nat->Nat->Nat->Int)(a b:Nat):List aU:=(List.range nc).flatMap (ru k v a b)
def Df(nb nc:Nat)(k:Int)(v:Nat->Nat->Nat->Int)(a:Nat):List aU:=(List.range nb).flatMap (Bm nc k v a)
def E0(n nb nc:Nat)(k:Int)(v:Nat->Nat->Nat->Int):List aU:=(List.range n).flatMap (Df nb nc k v)
def rz(xs:List (List PV)):PV:=if xs=[] then .nils else .sl xs
theorem aoI{aj:aA}(xs:List (List PV)):eN aj (.one (.p (rz xs)))=some (xs,[],[]):=by
 unfold rz;by_cases h:xs=[]
 .rw[aE h,h];rfl
 rw[aD h];rfl
theorem Lv(xs:List (List PV)):(rz xs).norm=.sl xs:=by
 unfold rz;by_cases h:xs=[]
 .rw[aE h,h];rfl
 rw[aD h];rfl
theorem Up{aj:aA}{s ty z:Nat}{es:List (List PV)}(lo:S.lone s=true):land aj [] s ((RV.one (aO ty z es)).eG (S.lone s))=some (.one (.p (rz es)),[]):=by
 rw[lo];unfold aO rz;by_cases h:es=[]
 .rw[aE h,aE h];rfl
 rw[aD h,aD h];rfl
section
variable {F:Nat} {ls:List Let}
abbrev ss:Nat:=54
theorem ajD{k a b c v:Int}{u:ByteArray}(hL:aJ S 85 [lO u,.one (.p (.int .u8 76))] (rb false))(hO:aJ S 85 [lO u,.one (.p (.int .u8 79))] (rb false))(hv:aJ S 115 [lN F ls,ft k a b c false false 0] (ri v)):aJ S 86 [lN F ls,ft k a b c false false 0,lO u] (.one (aO ss 7 (mP (if v=0 then [⟨k,a,b,c,false,false,0⟩] else [])))):=by
 refine bc c86 ?_;by_cases h:v=0
 .subst h;have e0:((0:Int)==0)=true:=rfl;rw[aE rfl];simp only[go_sem,i86,s85,cq hL,cq hO,s115,dJ hv,e0];refine mE (id:=5504256192) (site:=5504256192) (es:=[]) (xs:=[[.int .i64 k,.int .i64 a,.int .i64 b,.int .i64 c,.bool false,.bool false,.int .i64 0]]) grown.nil (by simp only[eN,aS,if_true];rfl) (.inl rfl) af fun c2 ao g1 hb=>?_;simp only[go_sem];exact xH g1
 rw[aD h];have h':(v==0)=false:=by simpa using h
 simp only[go_sem,i86,s85,cq hL,cq hO,s115,dJ hv,h'];first|done|rfl
theorem ang{x:PV}(hx:x.norm=.sl (jw (de F ls))){k:Int}{u:ByteArray}{v:Nat->Nat->Nat->Int}{N nb nc G:Nat}(hN:N<=400)(hnb:nb<=400)(Hb:nc<=400)(hL:aJ S 85 [lO u,.one (.p (.int .u8 76))] (rb false))(hO:aJ S 85 [lO u,.one (.p (.int .u8 79))] (rb false))(hv:∀a b c:Nat,aJ S 115 [lN F ls,ft k a b c false false 0] (ri (v a b c))){ak:Env}{aj:aA}
  (f1:ak 1=vi k) (f5:ak 5=.one (.p .nils)) (f6:ak 6=lO u) (f7:ak 7=.one (.ba 2880192128 G 0)) (f8:ak 8=vi N) (f9:ak 9=vi nb) (f10:ak 10=vi nc) (f11:ak 11=vi 0) (b7:aj 2880192128=(G,some (.var [.p (.int .i64 F),.p (hU ls),.p (.int .i64 ls.length),.p x]))):
  W S .all (.loop i45_l5) (pF 0 (wU S .all i45_r6 (qT .all i45.results fun w aj=>fv aj w=some (.one (aO ss 7 (mP (E0 N nb nc k v))))))) ak aj:=by
 have lo:S.lone 2881344512=true:=ah;have tU:∀a b c:Nat,aJ S 86 [lN F ls,ft k a b c false false 0,lO u] (.one (aO ss 7 (mP (ru k v a b c)))):=fun a b c=>ajD hL hO (hv a b c);refine cS (fun a ak aj=>ak 1=vi k/\ak 6=lO u/\ak 7=.one (.ba 2880192128 G 0)/\ak 8=vi N/\ak 9=vi nb/\ak 10=vi nc/\ak 11=vi a/\aj 2880192128=(G,some (.var [.p (.int .i64 F),.p (hU ls),.p (.int .i64 ls.length),.p x]))/\ ∃cc,ak 5=.one cc/\((List.range a).flatMap (Df nb nc k v)).length<=161000*a/\grown 2881344576 ss 7 (mP ((List.range a).flatMap (Df nb nc k v))) (.one cc) aj) 0 N (bn _) ⟨f1,f6,f7,f8,f9,f10,f11,b7,_,f5,af,grown.nil⟩ ?_;clear f1 f5 f6 f7 f8 f9 f10 f11 b7;rintro a ak aj ha ⟨f1,f6,f7,f8,f9,f10,f11,b7,ca,f5,nA,ga⟩
 by_cases au:a<N
 .have aL:((a:Int)<(N:Int)):=aa;have w1:=bQ (n:=a) aa;have sa:=S9 (Df nb nc k v) a;generalize hea:(List.range a).flatMap (Df nb nc k v)=ea at*;simp only[go_sem,i45_l5,f8,f11,aL];refine cS (fun b ak aj=>ak 1=vi k/\ak 6=lO u/\ak 7=.one (.ba 2880192128 G 0)/\ak 8=vi N/\ak 9=vi nb/\ak 10=vi nc/\ak 11=vi a/\ak 12=vi b/\aj 2880192128=(G,some (.var [.p (.int .i64 F),.p (hU ls),.p (.int .i64 ls.length),.p x]))/\ ∃cc,ak 5=.one cc/\(ea++(List.range b).flatMap (Bm nc k v a)).length<=161000*a+401*b/\grown 2881344576 ss 7 (mP (ea++(List.range b).flatMap (Bm nc k v a))) (.one cc) aj) 0 nb (bn _) ?_ ?_
  .simp only[go_sem,f1,f5,f6,f7,f8,f9,f10,f11,b7];exact⟨rfl,_,rfl,by simpa using nA,by simpa using ga⟩
  clear f1 f5 f6 f7 f8 f9 f10 f11 b7 ga nA;rintro b ak aj hb ⟨f1,f6,f7,f8,f9,f10,f11,f12,b7,ca,f5,nA,ga⟩
  by_cases wx:b<nb
  .have akM:((b:Int)<(nb:Int)):=aa;have w2:=bQ (n:=b) aa;have sb:=S9 (Bm nc k v a) b;generalize heb:(List.range b).flatMap (Bm nc k v a)=eb at*;simp only[go_sem,i45_l3,f9,f12,akM];refine cS (fun c ak aj=>ak 1=vi k/\ak 6=lO u/\ak 7=.one (.ba 2880192128 G 0)/\ak 8=vi N/\ak 9=vi nb/\ak 10=vi nc/\ak 11=vi a/\ak 12=vi b/\ak 13=vi c/\aj 2880192128=(G,some (.var [.p (.int .i64 F),.p (hU ls),.p (.int .i64 ls.length),.p x]))/\ ∃cc,ak 5=.one cc/\(ea++eb++(List.range c).flatMap (ru k v a b)).length<=161000*a+401*b+c/\grown 2881344576 ss 7 (mP (ea++eb++(List.range c).flatMap (ru k v a b))) (.one cc) aj) 0 nc (bn _) ?_ ?_
   .simp only[go_sem,f1,f5,f6,f7,f8,f9,f10,f11,f12,b7];exact⟨rfl,_,rfl,by simpa using nA,by simpa using ga⟩
   clear f1 f5 f6 f7 f8 f9 f10 f11 f12 b7 ga nA;rintro c ak aj hc ⟨f1,f6,f7,f8,f9,f10,f11,f12,f13,b7,ca,f5,nA,ga⟩
   by_cases hlc:c<nc
   .have akN:((c:Int)<(nc:Int)):=aa;have w3:=bQ (n:=c) aa;have sc:=S9 (ru k v a b) c;have pf:=tU a b c;have dM:(mP (ru k v a b c)).length<=1:=by
     unfold ru;split<;>simp[mP]
    have Ki:(ru k v a b c).length<=1:=by unfold ru;split<;>simp
    have bU:eC 7 (mP (ru k v a b c))=true:=by unfold ru;split<;>rfl
    generalize hec:(List.range c).flatMap (ru k v a b)=ec at*;generalize qA:ru k v a b c=qs at*;simp only[go_sem,i45_l1,f1,f5,f6,f7,f10,f11,f12,f13,b7,hx,akN,s86,cK pf (Up lo)];have di:(mP (ea++eb++ec)).length=(ea++eb++ec).length:=cG ..;refine mE (id:=2881344576) (site:=2881344576) (es:=mP (ea++eb++ec)) (xs:=mP qs) ga (aoI _) (.inr bU) aa fun c2 ao g1 cQ=>?_;have b7':=cQ 2880192128 ae ae;rw[b7] at b7';simp only[go_sem,f1,f5,f6,f7,f8,f9,f10,f11,f12,f13,w3];refine⟨hlc,b7',c2,rfl,?_,?_⟩
    .rw[sc,<- wY,fH];omega
    rw[sc,<- wY,show mP (ea++eb++ec++qs)=mP (ea++eb++ec)++mP qs by simp[mP]];exact g1
   have El:c=nc:=aa;subst El;have e2:(List.range c).flatMap (ru k v a b)=Bm c k v a b:=rfl;rw[e2] at nA ga;simp only[go_sem,i45_l1,i45_r2,f1,f5,f6,f7,f8,f9,f10,f11,f12,f13,dI,w2];refine⟨wx,b7,_,rfl,?_,?_⟩
   .rw[sb,<- wY];omega
   rw[sb,<- wY];exact ga
  have hbn:b=nb:=aa;subst hbn;have e2:(List.range b).flatMap (Bm nc k v a)=Df b nc k v a:=rfl;rw[e2] at nA ga;simp only[go_sem,i45_l3,i45_r4,f1,f5,f6,f7,f8,f9,f10,f11,f12,dI,w1];refine⟨au,b7,_,rfl,?_,?_⟩
  .rw[sa];omega
  rw[sa];exact ga
 have han:a=N:=aa;subst han;simp only[go_sem,i45_l5,i45_r6,i45,f5,f8,f11,dI];exact xH ga
theorem ane(h:ls=[]\/bK F ls):∃x r,x.norm=.sl (jw (de F ls))/\aJ S 46 [cY F ls] r/\ ∀(aj:aA) (s:Nat),S.lone s=true->land aj [] s (r.eG (S.lone s))=some (.agg [.p (.int .i64 F),.p (hU ls),.p (.int .i64 ls.length),.p x],[]):=by
 rcases h with rfl|g
 .exact⟨.nils,_,rfl,of_e F,fun aj s h=>by rw[h];rfl⟩
 refine⟨.sl (jw (de F ls)),_,rfl,Oe g,fun aj s h=>?_⟩;rw[h,AR (M9 g)];rfl
theorem UP(h:ls=[]\/bK F ls)(hl:ls.length<=400){k:Int}{u:ByteArray}{pb pc:Bool}{v:Nat->Nat->Nat->Int}(hk:(k==2)=false)(hu:aJ S 84 [vi k] (O2 u))(hB:aJ S 85 [lO u,.one (.p (.int .u8 66))] (rb pb))(hC:aJ S 85 [lO u,.one (.p (.int .u8 67))] (rb pc))(hL:aJ S 85 [lO u,.one (.p (.int .u8 76))] (rb false))(hO:aJ S 85 [lO u,.one (.p (.int .u8 79))] (rb false))(hv:∀a b c:Nat,aJ S 115 [lN F ls,ft k a b c false false 0] (ri (v a b c))):
  aJ S 45 [cY F ls,vi k] (.one (aO ss 7 (mP (E0 (max ls.length 1) (if pb then max ls.length 1 else 1) (if pc then max ls.length 1 else 1) k v)))):=by
 obtain⟨x,r,hx,po,ld⟩:=ane h;have lo:S.lone 2880192064=true:=ah;obtain⟨N,hN⟩:∃N,max ls.length 1=N:=⟨_,rfl⟩;have hN2:(if (1:Int)>(ls.length:Int) then (1:Int) else (ls.length:Int))=(N:Int):=by split<;>omega
 have hNb:N<=400:=aa;rw[hN];refine bc c45 ?_;cases pb<;>cases pc
 all_goals
  simp only[go_sem,i45,s84,Nl hu,s46,cK po (ld _ _ lo),s85,cq hB,cq hC,hk,hN2];refine ang (G:=1) hx hNb ?_ ?_ hL hO hv ?_ ?_ ?_ ?_ ?_ ?_ ?_ ?_ ?_;all_goals first
   |omega
   |(simp only[go_sem];first|done|rfl|trace_state)
end
theorem amO{x y:aU}(h:tg x y):¬tg y x:=by unfold tg wL nJ at*;simp only[oY,cE,lh] at*;omega
theorem ai1{R:aU->aU->Prop}(ha:∀x y,R x y-> ¬R y x):∀ {A B:List aU},A.Pairwise R->B.Pairwise R->(∀m,m∈A↔m∈B)->A=B:=by
 intro A
 induction A with
 |nil=>
  intro B _ _ h;cases B with
  |nil=>rfl
  |cons b B=>exact absurd ((h b).2 af) af
 |cons a A ih=>
  intro B hA hB h;cases B with
  |nil=>exact absurd ((h a).1 af) af
  |cons b B=>
   rw[rG] at hA hB;have e:a=b:=by apply Classical.byContradiction;intro aM;have h1:a∈B:=(dh.1 ((h a).1 af)).resolve_left aM;have h2:b∈A:=(dh.1 ((h b).2 af)).resolve_left (Ne.symm aM);exact ha _ _ (hA.1 b h2) (hB.1 a h1)
   subst e;rw[ih hA.2 hB.2 fun m=>⟨fun hm=>?_,fun hm=>?_⟩]
   .rcases dh.1 ((h m).1 (vB _ hm)) with e|e
    .subst e;exact absurd (hA.1 m hm) fun hr=>ha m m hr hr
    exact e
   rcases dh.1 ((h m).2 (vB _ hm)) with e|e
   .subst e;exact absurd (hB.1 m hm) fun hr=>ha m m hr hr
   exact e
section
variable {n nb nc:Nat} {k:Int} {v:Nat->Nat->Nat->Int} {a b c:Nat} {m:aU}
theorem UM:m∈ru k v a b c↔v a b c=0/\m=⟨k,a,b,c,false,false,0⟩:=by
 unfold ru;split
 .rename_i h;simp[h]
 rename_i h;simp[h]
theorem UL:m∈Bm nc k v a b↔ ∃c,c<nc/\v a b c=0/\m=⟨k,a,b,c,false,false,0⟩:=by unfold Bm;simp only[Md,fJ,UM]
theorem UK:m∈Df nb nc k v a↔ ∃b c,b<nb/\c<nc/\v a b c=0/\m=⟨k,a,b,c,false,false,0⟩:=by unfold Df;simp only[Md,fJ,UL];exact⟨fun⟨b,h1,c,h2,h3⟩=>⟨b,c,h1,h2,h3⟩,fun⟨b,c,h1,h2,h3⟩=>⟨b,h1,c,h2,h3⟩⟩
theorem anb:m∈E0 n nb nc k v↔ ∃a b c,a<n/\b<nb/\c<nc/\v a b c=0/\m=⟨k,a,b,c,false,false,0⟩:=by unfold E0;simp only[Md,fJ,UK];exact⟨fun⟨a,h1,b,c,h2,h3,h4⟩=>⟨a,b,c,h1,h2,h3,h4⟩,fun⟨a,b,c,h1,h2,h3,h4⟩=>⟨a,h1,b,c,h2,h3,h4⟩⟩
theorem UN(n nb nc:Nat)(k:Int)(v:Nat->Nat->Nat->Int):(E0 n nb nc k v).Pairwise tg:=by
 unfold E0;refine afM.2 ⟨fun a _=>?_,List.pairwise_lt_range.imp fun h x hx y hy=>?_⟩
 .refine afM.2 ⟨fun b _=>?_,List.pairwise_lt_range.imp fun h x hx y hy=>?_⟩
  .refine afM.2 ⟨fun c _=>?_,List.pairwise_lt_range.imp fun h x hx y hy=>?_⟩
   .unfold ru;split
    .exact afN _ _
    exact List.Pairwise.nil
   obtain⟨_,rfl⟩:=UM.1 hx;obtain⟨_,rfl⟩:=UM.1 hy;refine .inr ⟨rfl,.inr ⟨rfl,?_⟩⟩;unfold nJ;simp only[oY,cE,lh,true_and];omega
  obtain⟨_,_,_,rfl⟩:=UL.1 hx;obtain⟨_,_,_,rfl⟩:=UL.1 hy;refine .inr ⟨rfl,.inr ⟨rfl,?_⟩⟩;unfold nJ;simp only[oY,cE,lh];omega
 obtain⟨_,_,_,_,_,rfl⟩:=UK.1 hx;obtain⟨_,_,_,_,_,rfl⟩:=UK.1 hy;refine .inr ⟨rfl,.inl ?_⟩;show((_:Nat):Int)<((_:Nat):Int);omega
end
section
variable {F:Nat} {L:List Let}
theorem ao9(g:bK F L):∀x∈L,-1000000<=x.aw/\x.aw<=1000000:=fun x hx=>by obtain⟨i,hi⟩:=gH hx;exact Vh g ⟨x,gY L i⟩ (aW (kS hi))
theorem alu(g:bK F L):∀x∈L,-1000000<=x.id/\x.id<=1000000:=fun x hx=>by obtain⟨i,hi⟩:=gH hx;exact T9 g ⟨x,gY L i⟩ (aW (kS hi))
def dkOK(F:Nat)(L:List Let)(k a b c:Int)(p:Bool)(N:List Let)(D:List Bool):Prop:=aJ S 142 [lN F L,ft k a b c false false 0] (rb p)/\((mT F L k a.toNat b.toNat c.toNat false false 0).isSome=p/\ ∀M,mT F L k a.toNat b.toNat c.toNat false false 0=some M->Rel M N D)/\aJ S 28 [cY F L,ft k a b c false false 0] (yJ F N D)
theorem Yf(g:bK F L){k a b c:Int}(hk:k=1\/k=4\/k=6)(hA:cD F L k a b c false false 0=true):∃p N D,dkOK F L k a b c p N D:=by
 have hl:=g.len;have jj:=ao9 g;have akH:=alu g;have hid:∀x∈L,∀k:Nat,k<=4->IntKind.i64.wrap (x.id-(k:Int))=x.id-k:=fun x hx k hk=>by have:=akH x hx;exact nT aa aa
 have hrw:∀x∈L,IntKind.i64.wrap (x.aw-2)=x.aw-2:=fun x hx=>by have:=jj x hx;exact nT aa aa
 rcases hk with rfl|rfl|rfl
 .obtain⟨av,ha,rfl,rfl,rfl,_⟩:=(tE (.inl rfl)).1 hA;exact⟨_,_,_,aow g ha (aeb g ha) (aeb g (HM ha)),mv1 g ha,agC g av 0 0 false false 0 ha hl hrw⟩
 .obtain⟨av,ha,rfl,rfl,rfl,_⟩:=(tE (.inr rfl)).1 hA;exact⟨_,_,_,aox g ha,mv4 g ha,agD g av 0 0 false false 0 (se ha) hl hid⟩
 obtain⟨av,bv,ef,hb,rfl,rfl,rfl,_⟩:=(BY (.inr rfl)).1 hA;exact⟨_,_,_,aoy g aa hb,mv6 g aa hb,agE g av bv 0 false false 0 aa hb hl hid⟩
theorem abp{m:aU}(g:bK F L)(hk:m.k=1\/m.k=4\/m.k=6){X:List Let}(h:ju F L m=some X):∃a b c:Nat,a<L.length/\b<L.length/\c<L.length/\(m.k=6\/b=0)/\c=0/\m=⟨m.k,a,b,c,false,false,0⟩:=by
 have hA:=(I4 g (by unfold k5;omega) h).2.1;have hp:=g.pos;obtain⟨k,a,b,c,l,o,sg⟩:=m;simp only at hk hA ⊢;rcases hk with rfl|rfl|rfl
 .obtain⟨av,ha,rfl,rfl,rfl,rfl,rfl,rfl⟩:=(tE (.inl rfl)).1 hA;exact⟨av,0,0,ha,hp,hp,.inr rfl,rfl,rfl⟩
 .obtain⟨av,ha,rfl,rfl,rfl,rfl,rfl,rfl⟩:=(tE (.inr rfl)).1 hA;exact⟨av,0,0,ha,hp,hp,.inr rfl,rfl,rfl⟩
 obtain⟨av,bv,ef,hb,rfl,rfl,rfl,rfl,rfl,rfl⟩:=(BY (.inr rfl)).1 hA;exact⟨av,bv,0,aa,hb,hp,.inl rfl,rfl,rfl⟩
theorem agG(g:bK F L){m:aU}(hk:m.k=1\/m.k=4\/m.k=6){X:List Let}(h:ju F L m=some X):aJ S 28 [cY F L,EX m] (.agg [.p (.int .i64 F),aO fU 6 (cM X)]):=by obtain⟨_,hA,P,hP,rfl⟩:=I4 g (by unfold k5;omega) h;obtain⟨a,b,c,_,_,_,_,_,e⟩:=abp g hk h;generalize m.k=k at*;subst e;obtain⟨p,N,D,_,⟨_,hm⟩,pa⟩:=Yf g hk hA;have hr:=hm P hP;rw[hr.fin];exact pa
theorem Mt{k:Int}(hk:k5 k)(h:L=[]\/bK F L){a b c:Int}{l o:Bool}{sg:Int}(hA:cD F L k a b c l o sg=false):ju F L ⟨k,a,b,c,l,o,sg⟩=none:=by
 rcases h with rfl|g
 .unfold ju;rw[aE rfl,hA];rfl
 rw[Qc g hk];simp only[hA];rfl
theorem W4(h:L=[]\/bK F L){k:Int}(hk:k=1\/k=4\/k=6)(a b c:Nat):∃v,aJ S 115 [lN F L,ft k a b c false false 0] (ri v)/\(v=0↔ ∃X,ju F L ⟨k,a,b,c,false,false,0⟩=some X):=by
 have hl:L.length<=400:=by
  rcases h with rfl|g
  .simp
  exact g.len
 have pw:aJ S 141 [lN F L,ft k a b c false false 0] (rb (!cD F L k a b c false false 0)):=by
  rcases hk with rfl|rfl|rfl
  .exact arZ aa
  .exact ar0 aa
  exact ar1 aa
 cases hA:cD F L k a b c false false 0 with
 |false=>rw[hA] at pw;refine⟨_,W6 (p:=false) hl pw (fun h=>by cases h),?_⟩;rw[Mt (by unfold k5;omega) h hA];unfold alR;simp
 |true=>
  rcases h with rfl|g
  .exfalso;rcases hk with rfl|rfl|rfl
   .obtain⟨av,ha,_⟩:=(tE (.inl rfl)).1 hA;simp at ha
   .obtain⟨av,ha,_⟩:=(tE (.inr rfl)).1 hA;simp at ha
   obtain⟨av,bv,ef,hb,_⟩:=(BY (.inr rfl)).1 hA;simp at hb
  obtain⟨p,N,D,pp,⟨hm,_⟩,_⟩:=Yf g hk hA;rw[hA] at pw;refine⟨_,W6 hl pw fun _=>pp,?_⟩;have h2:=g.cr;have e1:decide ((400:Int)<(L.length:Int))=false:=DG aa;have e2:decide ((100:Int)<((ay Let.aB L/2:Nat):Int))=false:=DG aa;have e3:alG (L.length:Int) ((ay Let.aB L/2:Nat):Int) k=((L.length:Int),((ay Let.aB L/2:Nat):Int)):=by rcases hk with rfl|rfl|rfl<;>rfl
  rw[Qc g (show k5 k by unfold k5;omega)];simp only[hA,if_true];unfold alR;rw[e3,<- hm];simp only[e1,e2,Bool.or_self,zV];cases mT F L k (a:Int).toNat (b:Int).toNat (c:Int).toNat false false 0 with
  |none=>simp
  |some M=>simp
theorem UO(h:L=[]\/bK F L){k:Int}(hk:k=1\/k=4\/k=6):∃ms:List aU,aJ S 45 [cY F L,vi k] (.one (aO ss 7 (mP ms)))/\ms.Pairwise tg/\ ∀m,m∈ms↔m.k=k/\ ∃X,ju F L m=some X:=by
 have hl:L.length<=400:=by
  rcases h with rfl|g
  .simp
  exact g.len
 have hv:∃v:Nat->Nat->Nat->Int,∀a b c:Nat,aJ S 115 [lN F L,ft k a b c false false 0] (ri (v a b c))/\(v a b c=0↔ ∃X,ju F L ⟨k,a,b,c,false,false,0⟩=some X):=
  ⟨fun a b c=>Classical.choose (W4 h hk a b c),fun a b c=>Classical.choose_spec (W4 h hk a b c)⟩
 obtain⟨v,hv⟩:=hv;have fin:∀nb nc,(∀m X,m.k=k->ju F L m=some X->∃a b c:Nat,a<max L.length 1/\b<nb/\c<nc/\m=⟨k,a,b,c,false,false,0⟩)->∀m,m∈E0 (max L.length 1) nb nc k v↔m.k=k/\ ∃X,ju F L m=some X:=by
  intro nb nc hf m;rw[anb];constructor
  .rintro ⟨a,b,c,_,_,_,hv0,rfl⟩
   exact⟨rfl,(hv a b c).2.1 hv0⟩
  rintro ⟨qD,X,hX⟩
  obtain⟨a,b,c,ha,hb,hc,rfl⟩:=hf m X qD hX;exact⟨a,b,c,ha,hb,hc,(hv a b c).2.2 ⟨X,hX⟩,rfl⟩
 have fl:∀m X,m.k=k->ju F L m=some X->∃a b c:Nat,a<L.length/\b<L.length/\c<L.length/\(k=6\/b=0)/\c=0/\m=⟨k,a,b,c,false,false,0⟩:=by
  intro m X qD hX;rcases h with rfl|g
  .exfalso;subst qD;cases hA:cD F [] m.k m.a m.b m.c m.l m.o m.s with
   |false=>have e:=Mt (show k5 m.k by unfold k5;omega) (.inl rfl) hA;rw[show(⟨m.k,m.a,m.b,m.c,m.l,m.o,m.s⟩:aU)=m by cases m;rfl,hX] at e;cases e
   |true=>
    rcases hk with e|e|e
    .rw[e] at hA;obtain⟨av,ha,_⟩:=(tE (.inl rfl)).1 hA;simp at ha
    .rw[e] at hA;obtain⟨av,ha,_⟩:=(tE (.inr rfl)).1 hA;simp at ha
    rw[e] at hA;obtain⟨av,bv,ef,hb,_⟩:=(BY (.inr rfl)).1 hA;simp at hb
  subst qD;exact abp g hk hX
 rcases hk with rfl|rfl|rfl
 .refine⟨_,UP h hl ae afe HS Oo Oq Ot fun a b c=>(hv a b c).1,UN _ _ _ _ _,fin _ _ fun m X qD hX=>?_⟩;obtain⟨a,b,c,h1,h2,h3,h4,h5,e⟩:=fl m X qD hX;exact⟨a,b,c,aa,by simp;omega,by simp;omega,e⟩
 .refine⟨_,UP h hl ae aff HS Oo Oq Ot fun a b c=>(hv a b c).1,UN _ _ _ _ _,fin _ _ fun m X qD hX=>?_⟩;obtain⟨a,b,c,h1,h2,h3,h4,h5,e⟩:=fl m X qD hX;exact⟨a,b,c,aa,by simp;omega,by simp;omega,e⟩
 refine⟨_,UP h hl ae afg UY UZ ady adz fun a b c=>(hv a b c).1,UN _ _ _ _ _,fin _ _ fun m X qD hX=>?_⟩;obtain⟨a,b,c,h1,h2,h3,h4,h5,e⟩:=fl m X qD hX;exact⟨a,b,c,aa,by simp;omega,by simp;omega,e⟩
end
section
variable {F:Nat} {L:List Let}
theorem Un{aj:aA}{s:Nat}{m:aU}{r:List aU}(lo:S.lone s=true):land aj [] s ((RV.one (aO ss 7 (mP (m::r)))).eG (S.lone s))=some (.one (.p (.sl (m.ps::mP r))),[]):=Up lo
theorem Uo{aj:aA}{s:Nat}(lo:S.lone s=true):land aj [] s ((RV.one (aO ss 7 (mP []))).eG (S.lone s))=some (.one (.p .nils),[]):=Up lo
theorem aoU{l1 l4 l6:List aU}(p1:aJ S 45 [cY F L,vi 1] (.one (aO ss 7 (mP l1))))(p4:aJ S 45 [cY F L,vi 4] (.one (aO ss 7 (mP l4))))(p6:aJ S 45 [cY F L,vi 6] (.one (aO ss 7 (mP l6)))):aJ S 27 [cY F L] (hdV (l1++l4++l6)):=by
 have lo:S.lone 1728320320=true:=ah;have z0:((0:Int)<((0:Nat):Int))=False:=af;have w1:IntKind.i64.wrap 1=1:=ae;have w2:IntKind.i64.wrap 2=2:=ae;have w3:IntKind.i64.wrap 3=3:=ae;have l1':(1:Int)<3:=ae;have l2':(2:Int)<3:=ae;have l3':¬(3:Int)<3:=ae;refine bc c27 ?_;simp only[go_sem,i27];refine lU ?_;cases l1 with
 |cons m r=>have zp:(0:Int)<((r.length+1:Nat):Int):=aa;simp only[go_sem,i27_l1,s45,xz p1 (Un lo),Nat.zero_lt_succ,zp,aU.ps];first|done|exact aH|exact⟨aH,rfl⟩|trace_state
 |nil=>
  simp only[go_sem,i27_l1,s45,xz p1 (Uo lo),z0,w1];refine⟨aH,?_⟩;refine lU ?_;cases l4 with
  |cons m r=>have zp:(0:Int)<((r.length+1:Nat):Int):=aa;simp only[go_sem,s45,xz p4 (Un lo),zp,l1',aU.ps];first|done|exact aH|exact⟨aH,rfl⟩|trace_state
  |nil=>
   simp only[go_sem,s45,xz p4 (Uo lo),z0,w2,l1'];refine⟨aH,?_⟩;refine lU ?_;cases l6 with
   |cons m r=>have zp:(0:Int)<((r.length+1:Nat):Int):=aa;simp only[go_sem,s45,xz p6 (Un lo),zp,l2',aU.ps];first|done|exact aH|exact⟨aH,rfl⟩|trace_state
   |nil=>simp only[go_sem,s45,xz p6 (Uo lo),z0,w3,l2'];refine⟨aH,?_⟩;refine lU ?_;simp only[go_sem,i27_r2,l3'];first|done|rfl|trace_state
theorem aga(h:dT (F:Int) L=0):∃ms,aJ S 66 [cY F L,.one (.p (.sl (iP vq)))] (.tup [.one (aO hY 7 (mP ms)),.one (.p (.int .i64 0))])/\ms.Pairwise tg/\ ∀m,m∈ms↔m.k∈vq/\ ∃X,ju F L m=some X:=by
 by_cases aM:L=[]
 .subst aM;obtain⟨ms,⟨_,hm⟩,ps⟩:=WT h vq ae Ly;have akX:ms=[]:=ar4.2 fun m hx=>by
   obtain⟨_,⟨a,ha,_⟩,_⟩:=hm m hx;simp at ha
  subst akX;refine⟨[],ps,List.Pairwise.nil,fun m=>⟨fun h=>(by cases h),fun⟨hk,X,hX⟩=>?_⟩⟩;exfalso;have hk:m.k=1\/m.k=4\/m.k=6:=by simpa using hk
  cases hA:cD F [] m.k m.a m.b m.c m.l m.o m.s with
  |false=>have e:=Mt (show k5 m.k by unfold k5;omega) (.inl rfl) hA;rw[show(⟨m.k,m.a,m.b,m.c,m.l,m.o,m.s⟩:aU)=m by cases m;rfl,hX] at e;cases e
  |true=>
   rcases hk with e|e|e
   .rw[e] at hA;obtain⟨av,ha,_⟩:=(tE (.inl rfl)).1 hA;simp at ha
   .rw[e] at hA;obtain⟨av,ha,_⟩:=(tE (.inr rfl)).1 hA;simp at ha
   rw[e] at hA;obtain⟨av,bv,ef,hb,_⟩:=(BY (.inr rfl)).1 hA;simp at hb
 obtain⟨G,e,g⟩:=Ce h aM;have:F=G:=aa;subst this;obtain⟨ms,⟨_,aq,_,ji⟩,ps⟩:=WU g vq ae Ly;refine⟨ms,ps,ji,fun m=>⟨fun hm=>?_,fun⟨hk,X,hX⟩=>af9 g ae Ly ps hk hX⟩⟩;obtain⟨h1,_,X,h2,_⟩:=ani h Ly (aq m hm);exact⟨h1,X,h2⟩
theorem ad8(h:dT (F:Int) L=0){r:RV}(hp:aJ S 34 [cY F L] r):aJ S 27 [cY F L] r:=by
 have hf:L=[]\/bK F L:=by
  by_cases aM:L=[]
  .exact .inl aM
  obtain⟨G,e,g⟩:=Ce h aM;have:F=G:=aa;subst this;exact .inr g
 obtain⟨ms,ps,ji,nC⟩:=aga h;obtain⟨l1,p1,w1,m1⟩:=UO hf (.inl rfl);obtain⟨l4,p4,w4,m4⟩:=UO hf (.inr (.inl rfl));obtain⟨l6,p6,w6,m6⟩:=UO hf (.inr (.inr rfl));have pd:=aoU p1 p4 p6;have e:l1++l4++l6=ms:=by
  refine ai1 (fun _ _=>amO) ?_ ji fun m=>?_
  .refine BM.2 ⟨BM.2 ⟨w1,w4,fun x hx y hy=>.inl ?_⟩,w6,fun x hx y hy=>.inl ?_⟩
   .rw[((m1 x).1 hx).1,((m4 y).1 hy).1];decide
   rw[((m6 y).1 hy).1];rcases fi.1 hx with hx|hx
   .rw[((m1 x).1 hx).1];decide
   rw[((m4 x).1 hx).1];decide
  rw[fi,fi,m1,m4,m6,nC];simp only[dh,lT,or_false];constructor
  .rintro ((⟨h1,h2⟩|⟨h1,h2⟩)|⟨h1,h2⟩)
   .exact⟨.inl h1,h2⟩
   .exact⟨.inr (.inl h1),h2⟩
   exact⟨.inr (.inr h1),h2⟩
  rintro ⟨h1|h1|h1,h2⟩
  .exact .inl (.inl ⟨h1,h2⟩)
  .exact .inl (.inr ⟨h1,h2⟩)
  exact .inr ⟨h1,h2⟩
 rw[e] at pd;rw[hp.uO (Vo ps)];exact pd
end
section
variable {F:Nat} {ls:List Let}
theorem aci{aj:aA}{s ty z:Nat}{x:PV}{es:List (List PV)}(lo:S.lone s=true):land aj [] s ((RV.agg [.p x,aO ty z es]).eG (S.lone s))=some (.agg [.p x,.p (rz es)],[]):=by
 rw[lo];unfold aO rz;by_cases h:es=[]
 .rw[aE h,aE h];rfl
 rw[aD h,aD h];rfl
theorem anw{s1 t1 z1:Nat}{es:List (List PV)}{c:C}{x y:PV}{aj:aA}(h:grown s1 t1 z1 es (.one c) aj):fv aj (.tup [.agg [.p x,.p y],.one c])=some (.tup [.agg [.p x,.p y],.one (aO t1 z1 es)]):=by obtain⟨c',o,hc,h2,h3⟩:=h.fm;cases hc;have e1:∀v:PV,fm aj (.p v)=some (.p v,[],[]):=fun _=>rfl;rcases h3 with rfl|rfl<;>simp[fv,ll,qU,jx,iY,h2,e1,apart,oQ,mq,yw]
theorem ao0{L:List Let}:∀ {ms:List aU} {ls:List Let},tj F ls ms=some L->∀k,k<=ms.length->∃K,tj F ls (ms.take k)=some K:=by
 intro ms ls h k hk;cases hr:tj F ls (ms.take k) with
 |some K=>exact⟨K,rfl⟩
 |none=>have:=aoZ (r:=ms.drop k) hr;rw[tz,h] at this;cases this
theorem aoR{ms:List aU}{M:List Let}(GO:dT (F:Int) ls=0)(hl:ls.length<=400)(hR:yG F ls ms M)(dm:Lk F M):aJ S 8 [cY F ls] (.tup [.agg [.p (.int .i64 F),.p (rz (cM M))],.one (aO ss 7 (mP ms))]):=by
 have nI:S.lone 512128064=true:=ah;have Lb:S.lone 512384128=true:=ah;have pcp:=XS (F:Int) ls aa;have aa2:=hR.len;refine bc c8 ?_;simp only[go_sem,i8,s26,cK pcp (aci nI)];refine cS (fun k ak aj=>∃K c,tj F ls (ms.take k)=some K/\ak 1=.one (.ba 512000000 1 0)/\ak 2=.one (.ba 512000064 1 0)/\aj 512000064=(1,some (.var [.p (.int .i64 0),.p .nils]))/\aj 512000000=(1,some (.var [.p (.int .i64 F),.p (rz (cM K))]))/\ak 4=.one c/\grown 512448192 ss 7 (mP (ms.take k)) (.one c) aj) 0 ms.length (bn _) ?_ ?_
 .simp only[go_sem];refine⟨ls,.p .nils,rfl,?_⟩;repeat' apply And.intro
  all_goals first|rfl|exact grown.nil
 rintro k ak aj hk ⟨K,c,hK,h1,h2,bZ,b0,h4,gp⟩
 have CI:=Lv (cM K);by_cases au:k<ms.length
 .obtain⟨m,hm⟩:=aN au;obtain⟨K',hK',hKc,pr⟩:=hR.rdg k m hm;rw[hK] at hK';cases hK';have prd:=ad8 hKc pr;have G9:=hR.kind m (aW hm);have G0:m.k=1\/m.k=4\/m.k=6:=by simpa using G9
  obtain⟨X,hX⟩:=ao0 hR.rep (k+1) aa;have hts:ms.take (k+1)=ms.take k++[m]:=by rw[iw,hm];rfl
  have hXa:=hX;rw[hts,ad9 m hK] at hXa;have hgK:bK F K:=by
   by_cases aM:K=[]
   .exfalso;subst aM;cases hA:cD F [] m.k m.a m.b m.c m.l m.o m.s with
    |false=>have e:=Mt (show k5 m.k by unfold k5;omega) (.inl rfl) hA;rw[show(⟨m.k,m.a,m.b,m.c,m.l,m.o,m.s⟩:aU)=m by cases m;rfl,hXa] at e;cases e
    |true=>
     rcases G0 with e|e|e
     .rw[e] at hA;obtain⟨av,ha,_⟩:=(tE (.inl rfl)).1 hA;simp at ha
     .rw[e] at hA;obtain⟨av,ha,_⟩:=(tE (.inr rfl)).1 hA;simp at ha
     rw[e] at hA;obtain⟨av,bv,ef,hb,_⟩:=(BY (.inr rfl)).1 hA;simp at hb
   obtain⟨G,e,g⟩:=Ce hKc aM;have:F=G:=aa;subst this;exact g
  have pap:=agG hgK G0 hXa;simp only[go_sem,i8_l1,h1,h4,b0,CI,s27,cK prd K8,s28,cK pap (aci Lb)];refine mE (id:=512448192) (site:=512448192) (es:=mP (ms.take k)) (xs:=[m.ps]) (gp.of_eq (by simp only[aS,Nat.reduceEqDiff,if_false])) (by simp only[eN,aS,if_true];rfl) (.inl rfl) (by simp only[rm,iF,dp,eP];omega) fun c2 ao g1 cQ=>?_;have q0:=cQ 512000000 ae ae;have q1:=cQ 512000064 ae ae;simp only[go_sem,b0,bZ] at q0 q1;simp only[go_sem,h1,h2];refine⟨au,X,c2,hX,q1,q0,rfl,?_⟩;rw[hts,show mP (ms.take k++[m])=mP (ms.take k)++[m.ps] by simp[mP]];exact g1
 have hkn:k=ms.length:=aa;subst hkn;rw[jf] at hK gp;rw[hR.rep] at hK;cases hK;have prd:=ad8 hR.chk (Vo (ms:=[]) dm);have prd:aJ S 27 [cY F M] (Br Pl false):=prd;simp only[go_sem,i8_l1,h1,h2,h4,b0,bZ,CI,s27,cK prd K8];exact anw (gp.of_eq (by simp only[aS,Nat.reduceEqDiff,if_false]))
end
theorem aps(p:List aU)(hp:p.length<=1000000):aJ S 9 [.one (.p (N6 p)),.one (.p (N6 p))] (rb true):=by
 refine bc c9 ?_;have hlen:((p.length:Int)!=(p.length:Int))=false:=af;simp only[go_sem,i9,hlen];refine cS (fun k ak aj=>ak 0=.one (.p (N6 p))/\ak 1=.one (.p (N6 p))/\ak 5=vi k) 0 p.length (bn _) ⟨rfl,rfl,rfl⟩ ?_;rintro k ak aj hk ⟨h0,h1,h5⟩
 by_cases au:k<p.length
 .have aL:((k:Int)<(p.length:Int)):=aa;obtain⟨m,hm⟩:=aN au;have CC:=Le hm;have w1:=bQ (n:=k) aa;simp only[go_sem,i9_l1,h0,h1,h5,au,aL,CC,aU.ps,w1,rQ,sQ];first|done|exact aH|exact⟨aH,rfl⟩
 have:k=p.length:=aa;subst this;simp only[go_sem,i9_l1,i9_r2,h0,h5,dI];first|done|rfl
theorem aoN{F:Nat}{ls M:List Let}{ms:List aU}{r:RV}(h:rdR F ls ms M r){s:Nat}(lo:S.lone s=true):∃x y:PV,x.norm=.sl (cM M)/\y.norm=.sl (mP ms)/\ ∀aj:aA,land aj [] s (r.eG (S.lone s))=some (.tup [.agg [.p (.int .i64 F),.p x],.one (.p y),.one (.p (.int .i64 0))],[]):=by
 rw[lo];rcases h with ⟨rfl,rfl,rfl⟩|rfl
 .exact⟨hU _,.nils,rfl,rfl,fun _=>rfl⟩
 refine⟨rz (cM M),rz (mP ms),Lv _,Lv _,fun aj=>?_⟩;unfold aO rz;by_cases h1:cM M=[]<;>by_cases h2:mP ms=[]
 .rw[aE h1,aE h1,aE h2,aE h2];rfl
 .rw[aE h1,aE h1,aD h2,aD h2];rfl
 .rw[aD h1,aD h1,aE h2,aE h2];rfl
 rw[aD h1,aD h1,aD h2,aD h2];rfl
theorem aoO{F:Nat}{M:List Let}{ms:List aU}{s:Nat}(lo:S.lone s=true){aj:aA}:land aj [] s ((RV.tup [.agg [.p (.int .i64 F),.p (rz (cM M))],.one (aO ss 7 (mP ms))]).eG (S.lone s))=some (.tup [.agg [.p (.int .i64 F),.p (rz (cM M))],.one (.p (rz (mP ms)))],[]):=by
 rw[lo];unfold aO;by_cases h2:mP ms=[]
 .rw[aE h2,h2];rfl
 rw[aD h2];unfold rz;rw[aD h2];rfl
theorem ahT{f:Int}{A:List Let}(ck:dT f A=0):∃F:Nat,f=(F:Int):=by
 by_cases aM:A=[]
 .subst aM;unfold dT at ck;rw[aD ae] at ck;by_cases hf:f<0\/40<f
  .rw[aE hf] at ck;cases ck
  exact tu (show 0<=f by omega)
 obtain⟨F,e,_⟩:=Ce ck aM;exact⟨F,e⟩
theorem ami(dM:MC)(hk:aJ S 4 [] (rb true))(f:Int)(A:List Let):aJ S 3 [cY f A] (rb true):=by
 by_cases hl:(40:Int)<(A.length:Int)
 .refine bc c3 ?_;simp only[go_sem,i3,hl,s4,cq hk];first|done|rfl
 have nI:S.lone 192192064=true:=ah;have wK:S.lone 192448064=true:=ah;have pc:=ahR f A aa;by_cases ck:dT f A=0
 .obtain⟨F,rfl⟩:=ahT ck;obtain⟨r,⟨ms,M,hR,dm,hr⟩,pr⟩:=af7 dM ck aa;obtain⟨x,y,hx,hy,ld⟩:=aoN hr nI;have pd:=aoR ck aa hR dm;have hRl:=hR.len;have pe:=Yv (F:Int) M M aa aa;rw[BP rfl] at pe;have psm:=aps ms aa;have tc:=Lv (cM M);have hy2:=Lv (mP ms);have e00:((0:Int)!=0)=false:=ae;have e01:((0:Int)==0)=true:=rfl;rw[ck] at pc;have pe:aJ S 7 [.agg [.p (.int .i64 F),.p (.sl (cM M))],.agg [.p (.int .i64 F),.p (.sl (cM M))]] (rb true):=pe;have psm:aJ S 9 [.one (.p (.sl (mP ms))),.one (.p (.sl (mP ms)))] (rb true):=psm;refine bc c3 ?_;simp only[go_sem,i3,hl,s5,cK pr (ld _),s6,dJ pc,e00,s8,cK pd (aoO wK),e01,hx,hy,tc,hy2,s7,cq pe,s9,cq psm,s4,cq hk];first|done|rfl|trace_state
 have pr:=af6 f A aa ck;have pe:=Yv 0 [] [] af af;rw[BP rfl] at pe;have pe:aJ S 7 [.agg [.p (.int .i64 0),.p (.sl [])],.agg [.p (.int .i64 0),.p (.sl [])]] (rb true):=pe;have c1:(dT f A !=0)=true:=by simpa using ck
 have z0:(((0:Nat):Int)==0)=true:=rfl;have ld:∀(e:Int) (aj:aA),land aj [] 192192064 ((RV.tup [.agg [.p (.int .i64 0),.p .nils],.one (.p .nils),.one (.p (.int .i64 e))]).eG (S.lone 192192064))=some (.tup [.agg [.p (.int .i64 0),.p .nils],.one (.p .nils),.one (.p (.int .i64 e))],[]):=fun e aj=>by rw[nI];rfl
 generalize dT f A=e at*;refine bc c3 ?_;simp only[go_sem,i3,hl,s5,cK pr (ld _ _),s6,dJ pc,c1,z0,s7,cq pe,s4,cq hk];first|done|rfl|trace_state
end Go.Abs
namespace Go.Proofs.YtfhejdojdajpmaaGreatDoor.fnEaseReduces
open Go.Abs Go.ChangeShapes Go.WideShapes Go.ChangeAt Go.RowKit
theorem aaB {P : Program} {N n : Nat} {t : TypeId} {fs : Array Field} {p : List PV} (hu : P.underlying t = some (.struct fs)) (h : jg P N (n + 1) t p) :
    ∃parts : List (List PV), p = parts.flatten ∧ parts.length = fs.toList.length ∧ ∀(i : Nat) (f : Field) (x : List PV), fs.toList[i]?= some f → parts[i]?= some x → jg P N n f.type x := by
  simp only [jg, hu] at h;exact h
theorem amD {es : List (List PV)} (h :∀x ∈ es, ∃l : Let, x = l.ps) :∃ls : List Let, es = ls.map Let.ps := by
  induction es with
  | nil => exact ⟨[], rfl⟩
  | cons e es ih =>obtain ⟨l, rfl⟩ := h e (by simp);obtain ⟨ls, rfl⟩ := ih fun x hx => h x (by simp [hx]);exact ⟨l :: ls, rfl⟩
theorem amC {N n : Nat} {p : List PV} (h : jg S.P N (n + 1 + 1) 38 p) :∃l : Let, p = l.ps := by
  obtain ⟨parts, rfl, hl, hp⟩ := aaB Tryz.underlying38 h;rcases parts with _ | ⟨p0, _ | ⟨p1, _ | ⟨p2, _ | ⟨p3, _ | ⟨p4, _ | ⟨p5, _ | ⟨p6, r⟩⟩⟩⟩⟩⟩⟩ <;> first
    | (simp at hl; done)
    | skip
  obtain ⟨k, rfl, _⟩ := GK Tryz.underlying36 (hp 0 _ _ rfl rfl);obtain ⟨g, rfl, _⟩ := GK Tryz.underlying3 (hp 1 _ _ rfl rfl);obtain ⟨r, rfl, _⟩ := GK Tryz.underlying3 (hp 2 _ _ rfl rfl);obtain ⟨i, rfl, _⟩ := GK Tryz.underlying3 (hp 3 _ _ rfl rfl);obtain ⟨s, rfl, _⟩ := GK Tryz.underlying3 (hp 4 _ _ rfl rfl);obtain ⟨o, rfl⟩ := akm Tryz.underlying4 (hp 5 _ _ rfl rfl);exact ⟨⟨k, g, r, i, s, o⟩, rfl⟩
theorem ah0 {N n : Nat} {p : List PV} (h : jg S.P N (n + 1 + 1 + 1 + 1) 24 p) :∃(k : Int) (ls : List Let), p = [.int .i64 k,.sl (ls.map Let.ps)] := by
  obtain ⟨parts, rfl, hl, hp⟩ := aaB Tryz.underlying24 h;rcases parts with _ | ⟨p0, _ | ⟨p1, _ | ⟨p2, r⟩⟩⟩ <;> first
    | (simp at hl; done)
    | skip
  obtain ⟨k, rfl, _⟩ := GK Tryz.underlying3 (hp 0 _ _ rfl rfl);obtain ⟨es, rfl, _, he⟩ := akn Tryz.underlying22 (hp 1 _ _ rfl rfl);obtain ⟨ls, rfl⟩ := amD fun x hx => amC (he x hx);exact ⟨k, ls, rfl⟩
theorem law_any (pvss : List (List PV)) (h : Ml S.P maxLen 4 Tryz.f3.params.toList pvss) : aJ S 3 (Af S.P Tryz.f3.params.toList pvss) (.one (.p (.bool true))) := by
  have hp : Tryz.f3.params.toList = [24] := by rw [Tryz.params3]
  rw [hp] at h ⊢;rcases pvss with _ | ⟨a0, _ | ⟨a1, z1⟩⟩
  · exact h.elim
  · obtain ⟨f0, ls0, rfl⟩ := ah0 (n := 0) h.1
    have e3 :∀(f : Int) (a : List Let), F0 S.P 24 [.int .i64 f,.sl (a.map Let.ps)] = cY f a := fun f a => agO (P := S.P) Tryz.underlying24;simp only [Af, e3];exact ami ahV al1 f0 ls0
  · exact h.2.elim
theorem gTab : Tryz.prog.globalNamed O3 = some 0 := by kernel_rfl
theorem aj1 : (Tryz.prog.globals[0]?).map (·.type) = some 240 := by kernel_rfl
theorem ahI : Tryz.prog.cellsOf 240 = 20 := by kernel_rfl
theorem ahJ : Tryz.prog.cellsOf 225 = 1 := by kernel_rfl
/-- what the row's list gives: the table of the powers of ten -/
theorem table {W : World} (h : laidMetH Tryz.prog Rows.easeReducesRow.laid W) : G W := by
  have h1 : laidMet Tryz.prog Rows.easeReducesRow.laid W := h;have h2 := h1.tail.tail;have e : (Rows.laid_internal_strconv_uint64pow10 : DataW Unit) = Lib.tabData .u64 Lib.pow10Tab := by kernel_rfl
  rw [e] at h2;exact Lib.tabIs_of_head (rest := []) gTab aj1 Tryz.underlying240 Tryz.underlying225 ahJ ahI h2
end Go.Proofs.YtfhejdojdajpmaaGreatDoor.fnEaseReduces
namespace Go.Proofs.YtfhejdojdajpmaaGreatDoor.fnEaseReduces
open Go.Abs Go.ChangeShapes Go.WideShapes Go.ChangeAt Go.RowKit
theorem own : ownKnob Tryz.prog.godebug = none := by kernel_rfl
theorem ah7 (H : Type) (enc : TypeId×Value → H) (W : World) (base : Nat) (args : Array Value) (ds gs : List (DataW H)) (before : List MemPlace)
    (hval :∀(j : Nat) t v, Tryz.f3.params[j]?= some t → args[j]?= some v → Value.okWide Tryz.prog W .any base t v)
    (hW : DataW.Whole enc Tryz.prog Tryz.f3.params.toList Rows.easeReducesSpec.vars false W args.toList ds gs before) (hL : laidMetH Tryz.prog Rows.easeReducesRow.laid W) :
    Calls Tryz.prog 3 args W fun e W' =>∃v, e =.returned v ∧ Rows.easeReducesSpec.post enc Tryz.prog Tryz.f3 false true false false W args v W' := by
  have hk :∀t ∈ Tryz.f3.params.toList, jm S.P 4 t = true := by
    rw [Tryz.params3];intro t ht;have e : t = 24 := by simpa using ht
    have k : jm S.P 4 24 = true := by kernel_rfl
    exact e ▸ k
  have hfit :∀d ∈ ds, Fits maxLen d := by obtain ⟨p, q, hA, _⟩ := hW;exact (ae8 hk hA).1
  exact amh S_ok (fun w h => akb h) (fn := Tryz.f3) (s := Rows.easeReducesSpec) rfl
    (fun H ds hd => by
      rw [Tryz.params3] at hd
      match ds, hd with
      | [d0], _ => rfl) (tb := 4) (by kernel_rfl) Tryz.underlying4 hk law_any hval hW (table hL) hfit

noncomputable def ahH (d : DataW Unit) : Array Value :=
  match d with
  | .agg l => (l.map fun
    | .lit (.int k z) => Value.int k z
    | _ => undef).toArray
  | _ => #[]
noncomputable def Uq (d : DataW Unit) : Obj → Obj
  | .cells _ t frozen =>.cells (ahH d) t frozen
  | o => o
noncomputable def Um (os : Os) : World :={ World.holding Tryz.prog os ⟨#[], #[], []⟩ with heap := (((World.holding Tryz.prog os ⟨#[], #[], []⟩).heap.modify 1 (Uq Rows.laid_math_bits_deBruijn32tab)).modify 2 (Uq Rows.laid_math_bits_deBruijn64tab)).modify 0 (Uq Rows.laid_internal_strconv_uint64pow10) }
theorem al9 (os : Os) : laidMet Tryz.prog Rows.easeReducesRow.laid ((Um os).forCall (fun _ _ => 0) ⟨#[], #[Value.agg #[.int .i64 0,.slice none 0 0]], []⟩).memory :=laidMet_of_run' 8 (by kernel_rfl) (by kernel_rfl)
theorem reads (os : Os) {H : Type} (enc : TypeId×Value → H) :∃places, DataW.whole enc Tryz.prog ((Um os).forCall (fun _ _ => 0) ⟨#[], #[Value.agg #[.int .i64 0,.slice none 0 0]], []⟩).memory Tryz.f3.params.toList Rows.easeReducesSpec.vars false #[Value.agg #[.int .i64 0,.slice none 0 0]].toList 8 = some ([.agg [.lit (.int .i64 0),.nil]], [], places) :=
  ⟨[], by kernel_rfl⟩

theorem lifted (os : Os) (started : os.Started) (H : Type) (enc : TypeId×Value → H) (F : Stop.Interp) :
    ReturnsInHanded {} Tryz.checked os 3 .any ((OpenSpec.ofChange Rows.easeReducesSpec).preRow enc Tryz.prog Tryz.f3 Rows.easeReducesRow.domain false Rows.easeReducesRow.laid) (((OpenSpec.ofChange Rows.easeReducesSpec).at F).post enc Tryz.prog Tryz.f3 false true false false) := by
  obtain ⟨places, hx⟩ := reads os enc;refine returnsInHanded_of_row (C := Tryz.checked) (s := (OpenSpec.ofChange Rows.easeReducesSpec)) own started (by kernel_rfl) Tryz.func3
    (witness_row_at (enc := enc) (C := Tryz.checked) false (Um os) #[Value.agg #[.int .i64 0,.slice none 0 0]] rfl (by kernel_rfl) (by kernel_rfl) (by kernel_rfl)
      (OpenSpec.preRow_of_cond 8 hx (by kernel_rfl) (fun k hk => by cases hk) (by kernel_rfl) (al9 os))) ?_
  intro W base args ds gs before hval hW _ _ _ hL _ _;exact ah7 H enc W base args ds gs before hval hW hL
end Go.Proofs.YtfhejdojdajpmaaGreatDoor.fnEaseReduces
namespace Go.Proofs.YtfhejdojdajpmaaGreatDoor.fnEaseReduces
open Go.Abs Go.ChangeShapes Go.WideShapes Go.ChangeAt Go.RowKit
theorem said : Rows.EaseReducesSaid :=
  OpenClaim.holds_of_cond 3 Tryz.f3 rfl rfl rfl rfl rfl rfl rfl ⟨rfl, rfl, rfl, rfl, rfl⟩ rfl rfl rfl rfl rfl (by kernel_rfl) Tryz.func3 closed
    (of_decide_eq_true (by kernel_rfl)) (by unfold Func.isWrapper; first | (rw [if_pos (by decide +kernel)]; kernel_rfl) | (rw [if_neg (by decide +kernel)]; exact ⟨rfl, rfl⟩))
    (fun os started H enc _ F => by rw [OpenClaim.pre_eq_preRow]; exact lifted os started H enc F)

theorem plain (f : FuncId) (fn : Func) (hf : Tryz.pinned.checked.prog.funcNamed Rows.easeReducesRow.func = some f) (hfn : Tryz.pinned.checked.prog.funcs[f]?= some fn) :
    false = Tryz.pinned.checked.prog.looks [] ∧ ∀(j : Nat) t, fn.params[j]?= some t → Tryz.pinned.checked.prog.wantsStandIn t = false := by
  obtain rfl : f = 3 := Option.some.inj ((show Tryz.prog.funcNamed Rows.easeReducesRow.func = some 3 by kernel_rfl).symm.trans hf) |>.symm
  obtain rfl : fn = Tryz.f3 := (Option.some.inj (Tryz.func3.symm.trans hfn)).symm;refine ⟨by kernel_rfl, ?_⟩
  · intro j t ht
    rw [Tryz.params3] at ht;have e : t = 24 := by simpa using Array.mem_of_getElem? ht
    have k : Tryz.prog.wantsStandIn 24 = false := by kernel_rfl
    exact e ▸ k

theorem arT : Rows.easeReducesRow.wfByText (OpenSpec.ofChange Rows.easeReducesSpec) = true := by kernel_rfl
theorem mainIs : Tryz.pinned.checked.prog.mainIs = some ((true, "0915fbccd56dc44049932997934d15e29e4aa0f79886eb7b993d2094ac28c73e").1, (true, "0915fbccd56dc44049932997934d15e29e4aa0f79886eb7b993d2094ac28c73e").2.toList) := by kernel_rfl
theorem card : Rows.EaseReducesCardSaid :=Claim7.holds_tied_plain_at .later [] _ _ _ _ said (fun _ h => by cases h) arT (fun _ h => by cases h) easeReduces_row_tie rfl ⟨rfl, rfl⟩ mainIs rfl plain goes
end Go.Proofs.YtfhejdojdajpmaaGreatDoor.fnEaseReduces
