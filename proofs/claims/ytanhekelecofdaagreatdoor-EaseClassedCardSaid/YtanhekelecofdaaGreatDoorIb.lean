/- A part. -/
import Derived.Test.YtanhekelecofdaaGreatDoorIa
import Derived.Test.YtanhekelecofdaaGreatDoorRh
set_option linter.all false
set_option maxRecDepth 100000
set_option maxHeartbeats 16000000
namespace Go.Abs
section
variable{F f:Nat}{m:aV}
def Gd(a:Nat)(b:UInt8):Nat:=10*a+(b.toNat-48)
def uC(b:UInt8):Prop:=48<=b.toNat/\b.toNat<=57
def LJ{n:Nat}(h:n<256):(UInt8.ofNat n).toNat=n:=by rw[UInt8.toNat_ofNat'];exact fX h
def alK:∀(k u:Nat) (acc:p_),u<10 ^ (k+1)->∃ds,sW (k+1) u acc=ds++acc/\ds≠[]/\(∀b∈ds,uC b)/\ds.foldl Gd 0=u:=by
 intro k
 induction k with
 |zero=>
  intro u acc h;have hu:u<10:=by simpa using h
  refine⟨[UInt8.ofNat (48+u)],?_,af,fun b hb=>?_,?_⟩
  .unfold sW;have hb:Nat.blt u 10=true:=Nat.ble_eq_true_of_le hu;rw[hb];rfl
  .rw[lQ.1 hb];unfold uC;rw[LJ aa];omega
  show Gd 0 (UInt8.ofNat (48+u))=u;unfold Gd;rw[LJ aa];omega
 |succ k ih=>
  intro u acc h;by_cases hu:u<10
  .refine⟨[UInt8.ofNat (48+u)],?_,af,fun b hb=>?_,?_⟩
   .unfold sW;have hb:Nat.blt u 10=true:=Nat.ble_eq_true_of_le hu;rw[hb];rfl
   .rw[lQ.1 hb];unfold uC;rw[LJ aa];omega
   show Gd 0 (UInt8.ofNat (48+u))=u;unfold Gd;rw[LJ aa];omega
  have hq:u/10<10 ^ (k+1):=by have:10 ^ (k+1+1)=10 ^ (k+1)*10:=Nat.pow_succ ..;omega
  have hr:=dk u (show 0<10 by decide);obtain⟨ds,h1,h2,h3,h4⟩:=ih (u/10) (UInt8.ofNat (48+u%10)::acc) hq;refine⟨ds++[UInt8.ofNat (48+u%10)],?_,af,fun b hb=>?_,?_⟩
  .have hb:Nat.blt u 10=false:=by
    cases e:Nat.blt u 10 with
    |false=>rfl
    |true=>exact absurd (iI e) hu
   have e:sW (k+1+1) u acc=sW (k+1) (u/10) (UInt8.ofNat (48+u%10)::acc):=by rw[sW,hb];rfl
   rw[e,h1];simp
  .rcases eX.1 hb with hb|hb
   .exact h3 b hb
   rw[lQ.1 hb];unfold uC;rw[LJ aa];omega
  rw[IK,h4];show Gd (u/10) (UInt8.ofNat (48+u%10))=u;unfold Gd;rw[LJ aa];omega
def nb (n:Nat):p_:=sW 20 n []
def vJ{n:Nat}(h:n<=1000000):(∀b∈nb n,uC b)/\(nb n).foldl Gd 0=n:=by
 have hp:n<10 ^ (19+1):=Nat.lt_of_le_of_lt h ae;obtain⟨ds,h1,_,h3,h4⟩:=alK 19 n [] hp;have e:nb n=ds:=by unfold nb;rw[h1,jJ]
 rw[e];exact⟨h3,h4⟩
def Yu(n:Nat):(lk (n:Int)).data.toList=nb n:=rfl
def Qs:∀ {x y:p_} {c d:UInt8} {r q:p_},(∀b∈x,uC b)->(∀b∈y,uC b)-> ¬uC c-> ¬uC d->x++c::r=y++d::q->x=y/\c=d/\r=q:=by
 intro x
 induction x with
 |nil=>
  intro y c d r q _ hy hc _ h;cases y with
  |nil=>cases h;exact⟨rfl,rfl,rfl⟩
  |cons b y=>exfalso;rw[gR,nY] at h;exact hc ((IG h).1▸hy b af)
 |cons a x ih=>
  intro y c d r q hx hy hc hd h;cases y with
  |nil=>exfalso;rw[gR,nY] at h;exact hd ((IG h).1▸hx a af)
  |cons b y=>rw[nY,nY] at h;obtain⟨e,h⟩:=IG h;obtain⟨h1,h2,h3⟩:=ih (fun b hb=>hx b (by simp[hb])) (fun b hb=>hy b (by simp[hb])) hc hd h;exact⟨by rw[e,h1],h2,h3⟩
def Hd(l:Let):Prop:= ∃a b c:Nat,a<=1000000/\b<=1000000/\c<=1000000/\((l.kind=1/\l.gate=a/\l.aA=b/\l.id=0/\l.sign=0/\l.over=false)\/(l.kind=2/\l.gate=0/\l.aA=0/\l.id=c/\(l.sign=1\/l.sign= -1)))
def am8{L:ai}(g:cE F L):∀l∈L,Hd l:=by
 intro l hl;have hc:=g.len;have hF:=g.fing;have hb:=g.bad l hl;rcases wg hb with hp|hx
 .obtain⟨g0,g1,r0,r1⟩:=g.ok.ax.fq l hl hp;have:=sR (mD l.gate.toNat) L;obtain⟨⟨⟨_,hid⟩,hs⟩,ho⟩:=(sC hp).1 hb;simp only[cg] at r1;refine⟨l.gate.toNat,l.aA.toNat,0,aa,aa,aa,.inl ⟨dh.1 hp,aa,aa,hid,hs,ho⟩⟩
 obtain⟨i1,i2⟩:=g.ids.1 l hl hx;have:=sR Let.aD L;obtain⟨⟨h1,h2⟩,h3⟩:=(O3 hx).1 hb;refine⟨0,0,l.id.toNat,aa,aa,aa,.inr ⟨dh.1 hx,h1,h2,aa,?_⟩⟩;by_cases e:l.sign=1
 .exact .inl e
 by_cases e2:l.sign= -1
 .exact .inr e2
 simp[e,e2] at h3
def wl (l:Let):p_:=(tK l).data.toList
def Jg(a b:ByteArray):(a++b).data.toList=a.data.toList++b.data.toList:=by rw[ByteArray.data_append,Array.toList_append]
def PB{l:Let}{a b:Nat}(h1:l.kind=1)(h2:l.gate=a)(h3:l.aA=b):wl l=nb a++46::nb b:=by unfold wl tK;rw[h1,h2,h3];show(lk (a:Int)++Zz++lk (b:Int)).data.toList=_;rw[Jg,Jg,Yu,Yu];show nb a++[46]++nb b=_;simp
def PA{l:Let}{c:Nat}(h1:l.kind=2)(h2:l.id=c)(h3:l.sign=1\/l.sign= -1):wl l=nb c++(if l.over then 111 else 117)::(if l.sign=1 then [43] else [45]):=by unfold wl tK;rw[h1,h2];show((lk (c:Int)++(if l.over then sO else sU))++(if l.sign==1 then sPl else if l.sign== -1 then sMi else sQu)).data.toList=_;rw[Jg,Jg,Yu];rcases h3 with h|h<;>rw[h]<;>cases l.over<;>simp[sO,sU,sPl,sMi]
def nd:¬uC 46/\ ¬uC 111/\ ¬uC 117:=by unfold uC;decide
def avC{x y:Let}(hx:Hd x)(hy:Hd y)(h:wl x=wl y):x=y:=by
 obtain⟨a,b,c,ha,hb,hc,hx⟩:=hx;obtain⟨a',b',c',NN,wI,iz,hy⟩:=hy;obtain⟨n1,n2,n3⟩:=nd;have ext:∀a b:Let,a.kind=b.kind->a.gate=b.gate->a.aA=b.aA->a.id=b.id->a.sign=b.sign->a.over=b.over->a=b:=fun a b=>by cases a;cases b;simp only[Let.mk.injEq];intros;simp_all
 have no:∀o:Bool,¬uC (if o then 111 else 117):=fun o=>by cases o<;>assumption
 have ne:∀o:Bool,(46:UInt8)≠(if o then 111 else 117):=fun o=>by cases o<;>decide
 rcases hx with ⟨x1,x2,x3,x4,x5,x6⟩|⟨x1,x2,x3,x4,x5⟩<;>rcases hy with ⟨y1,y2,y3,y4,y5,y6⟩|⟨y1,y2,y3,y4,y5⟩
 .rw[PB x1 x2 x3,PB y1 y2 y3] at h;obtain⟨e1,_,e2⟩:=Qs (vJ ha).1 (vJ NN).1 n1 n1 h;have e3:a=a':=by rw[<- (vJ ha).2,<- (vJ NN).2,e1]
  have e4:b=b':=by rw[<- (vJ hb).2,<- (vJ wI).2,e2]
  exact ext _ _ (by rw[x1,y1]) (by rw[x2,y2,e3]) (by rw[x3,y3,e4]) (by rw[x4,y4]) (by rw[x5,y5]) (by rw[x6,y6])
 .rw[PB x1 x2 x3,PA y1 y4 y5] at h;exact absurd (Qs (vJ ha).1 (vJ iz).1 n1 (no _) h).2.1 (ne _)
 .rw[PA x1 x4 x5,PB y1 y2 y3] at h;exact absurd (Qs (vJ hc).1 (vJ NN).1 (no _) n1 h).2.1.symm (ne _)
 rw[PA x1 x4 x5,PA y1 y4 y5] at h;obtain⟨e1,e2,e3⟩:=Qs (vJ hc).1 (vJ iz).1 (no _) (no _) h;have e4:c=c':=by rw[<- (vJ hc).2,<- (vJ iz).2,e1]
 refine ext _ _ (by rw[x1,y1]) (by rw[x2,y2]) (by rw[x3,y3]) (by rw[x4,y4,e4]) ?_ ?_
 .rcases x5 with s|s<;>rcases y5 with u|u<;>rw[s,u] at e3 |- <;>revert e3<;>decide
 revert e2;cases x.over<;>cases y.over<;>decide
def aiO{x:Let}(hx:Hd x):∀b∈wl x,b≠32:=by
 obtain⟨a,b,c,ha,hb,hc,hx⟩:=hx;have aqI:¬uC 32:=by unfold uC;decide
 have dg:∀z,z<=1000000->∀q∈nb z,q≠32:=fun z hz q hq e=>aqI (e▸(vJ hz).1 q hq);rcases hx with ⟨x1,x2,x3,_⟩|⟨x1,_,_,x4,x5⟩
 .rw[PB x1 x2 x3];intro q hq;rcases eX.1 hq with h|h
  .exact dg a ha q h
  rcases ch.1 h with rfl|h
  .decide
  exact dg b hb q h
 rw[PA x1 x4 x5];intro q hq;rcases eX.1 hq with h|h
 .exact dg c hc q h
 rcases ch.1 h with rfl|h
 .cases x.over<;>decide
 split at h<;>(rw[lQ.1 h];decide)
def aul:∀ {x y r q:p_},(∀b∈x,b≠32)->(∀b∈y,b≠32)->(r=[]\/ ∃t,r=32::t)->(q=[]\/ ∃t,q=32::t)->x++r=y++q->x=y/\r=q:=by
 intro x
 induction x with
 |nil=>
  intro y r q _ hy hr hq h;cases y with
  |nil=>exact⟨rfl,h⟩
  |cons b y=>
   exfalso;rw[gR,nY] at h;rcases hr with rfl|⟨t,rfl⟩
   .cases h
   exact hy b af (IG h).1.symm
 |cons a x ih=>
  intro y r q hx hy hr hq h;cases y with
  |nil=>
   exfalso;rw[gR,nY] at h;rcases hq with rfl|⟨t,rfl⟩
   .cases h
   exact hx a af (IG h).1
  |cons b y=>rw[nY,nY] at h;obtain⟨e,h⟩:=IG h;obtain⟨h1,h2⟩:=ih (fun b hb=>hx b (by simp[hb])) (fun b hb=>hy b (by simp[hb])) hr hq h;exact⟨by rw[e,h1],h2⟩
def avE:∀ {A B:ai},(∀l∈A,Hd l)->(∀l∈B,Hd l)->(A.flatMap fun l=>32::wl l)=(B.flatMap fun l=>32::wl l)->A=B:=by
 have tl:∀X:ai,(X.flatMap fun l=>32::wl l)=[]\/ ∃t,(X.flatMap fun l=>32::wl l)=32::t:=fun X=>by
  cases X with
  |nil=>exact .inl rfl
  |cons x X=>exact .inr ⟨_,by rw[L4,nY]⟩
 intro A
 induction A with
 |nil=>
  intro B _ _ h;cases B with
  |nil=>rfl
  |cons b B=>rw[L4,nY] at h;cases h
 |cons a A ih=>
  intro B hA hB h;cases B with
  |nil=>rw[L4,nY] at h;cases h
  |cons b B=>rw[L4,L4,nY,nY] at h;obtain⟨h1,h2⟩:=aul (aiO (hA a af)) (aiO (hB b af)) (tl A) (tl B) (IG h).2;rw[avC (hA a af) (hB b af) h1,ih (fun l h=>hA l (by simp[h])) (fun l h=>hB l (by simp[h])) h2]
def ag0(F:Int)(L:ai):(oU F L).data.toList=(lk F++sCo).data.toList++L.flatMap fun l=>32::wl l:=by
 have key:∀(L:ai) (s:ByteArray),(L.foldl (fun s l=>s++(Ep++tK l)) s).data.toList=s.data.toList++L.flatMap fun l=>32::wl l:=by
  intro L
  induction L with
  |nil=>intro s;simp
  |cons l L ih=>intro s;rw[Bt,ih,Jg,Jg,L4];show s.data.toList++([32]++wl l)++_=_;simp
 exact key L _
def ase{A B:ai}(hA:cX (F:Int) A=0)(hB:cX (F:Int) B=0)(h:oU (F:Int) A=oU (F:Int) B):A=B:=by
 have gl:∀X:ai,cX (F:Int) X=0->∀l∈X,Hd l:=fun X hX l hl=>by obtain⟨G,_,g⟩:=pM hX (List.ne_nil_of_mem hl);exact am8 g l hl
 have h2:(oU (F:Int) A).data.toList=(oU (F:Int) B).data.toList:=by rw[h]
 rw[ag0,ag0] at h2;exact avE (gl A hA) (gl B hB) (List.append_cancel_left h2)
def aqi:∀ {A B:h_},mP A=mP B->A=B:=by
 intro A
 induction A with
 |nil=>intro B h;cases B with
  |nil=>rfl
  |cons b B=>cases h
 |cons a A ih=>
  intro B h;cases B with
  |nil=>cases h
  |cons b B=>
   have h:aV.ps a::mP A=aV.ps b::mP B:=h;obtain⟨h1,h2⟩:=IG h;rw[ih h2];cases a;cases b;unfold aV.ps at h1;simp only[Ae,PV.int.injEq,PV.bool.injEq,true_and,and_true] at h1;simp only[Ae,aV.mk.injEq,and_true]
   simp_all
def ant{A B:h_}(h:(RV.tup [.one (bh iT 7 (mP A)),.one (.p (.int .i64 0))])=.tup [.one (bh iT 7 (mP B)),.one (.p (.int .i64 0))]):A=B:=by
 simp only[RV.tup.injEq,Ae,RV.one.injEq,and_true] at h;apply aqi;unfold bh at h;by_cases a:mP A=[]<;>by_cases b:mP B=[]
 .rw[a,b]
 .rw[aG a,aC b] at h;cases h
 .rw[aC a,aG b] at h;cases h
 rw[aC a,aC b] at h;simp only[RC.own.injEq] at h;exact h.2.2
section
variable {F:Nat} {L:ai}
def abL{pl a b:Nat}{kk:Int}{ns:h_}(dU:a<b)(h:kQ F L pl [a,b] a=true)(hs:∀j,j<2->j9 kk a (lJ F L (2*a+j)).cG ns)(h8:kk≠8):mv2 kk a b∈ns:=by
 have key:∀f:Fc,wx f pl [a,b]=true->j9 kk a f.cG ns->mv2 kk a b∈ns:=fun f hf hs=>by
  unfold wx at hf;simp only[cJ,dh,gj] at hf;obtain⟨h1,_,h3⟩:=hf;have ex:∀e∈[a,b],∃d∈f.cG,d/2=e:=fun e he=>by have h4:=h3 e he;unfold vk at h4;obtain⟨d,hd,pR⟩:=Af.1 (show 0<f.cG.countP fun d=>d/2==e by omega);exact⟨d,hd,dh.1 pR⟩
  exact hs.1 h8 b dU h1 (ex a af) (ex b af)
 unfold kQ at h;rw[vU] at h;rcases h with h|h
 .exact key _ h (hs 0 ae)
 exact key _ h (hs 1 ae)
def alk{pl a b c:Nat}{ns:h_}(dU:a<b)(wJ:b<c)(h:kQ F L pl [a,b,c] a=true)(hs:∀j,j<2->j9 8 a (lJ F L (2*a+j)).cG ns):mv3 8 a b c∈ns:=by
 have key:∀f:Fc,wx f pl [a,b,c]=true->j9 8 a f.cG ns->mv3 8 a b c∈ns:=fun f hf hs=>by
  unfold wx at hf;simp only[cJ,dh,gj] at hf;obtain⟨h1,_,h3⟩:=hf;have ex:∀e∈[a,b,c],∃d∈f.cG,d/2=e:=fun e he=>by have h4:=h3 e he;unfold vk at h4;obtain⟨d,hd,pR⟩:=Af.1 (show 0<f.cG.countP fun d=>d/2==e by omega);exact⟨d,hd,dh.1 pR⟩
  exact hs.2 rfl b c dU wJ h1 (ex a af) (ex b af) (ex c af)
 unfold kQ at h;rw[vU] at h;rcases h with h|h
 .exact key _ h (hs 0 ae)
 exact key _ h (hs 1 ae)
def akF(g:cE F L){X:ai}(hk:k5 m.k)(h:fi F L m=some X){ns:h_}(hc:CP F L m.k ns):m∈ns:=by
 obtain⟨k,a,b,c,l,o,sg⟩:=m;obtain⟨_,hA,P,hP,_⟩:=By g hk h;simp only at hA hP hc;have hk:k5 k:=hk;unfold k5 at hk;rcases hk with rfl|rfl|rfl|rfl|rfl
 .obtain⟨av,ha,rfl,rfl,rfl,rfl,rfl,rfl⟩:=(aaO (.inl rfl)).1 hA;exact hc.1 (.inl rfl) av ha
 .obtain⟨av,bv,dU,hb,rfl,rfl,rfl,rfl,rfl,rfl⟩:=(EW (.inl rfl)).1 hA;have hP:nI F L av bv=some P:=hP;obtain⟨p,v,q,w,c3,_⟩:=Mi g aa hb hP;exact abL dU c3.cor (hc.2 (.inl rfl) av aa) ae
 .obtain⟨av,ha,rfl,rfl,rfl,rfl,rfl,rfl⟩:=(aaO (.inr rfl)).1 hA;exact hc.1 (.inr rfl) av ha
 .obtain⟨av,bv,dU,hb,rfl,rfl,rfl,rfl,rfl,rfl⟩:=(EW (.inr rfl)).1 hA;have hP:xh F L av bv=some P:=hP;have c6:=arl.1 (show(xh F L av bv).isSome=true by rw[hP];rfl);exact abL dU c6.cor (hc.2 (.inr (.inl rfl)) av aa) ae
 obtain⟨av,bv,cv,dU,wJ,cK,rfl,rfl,rfl,rfl,rfl,rfl⟩:=GD.1 hA;have hP:mR F L av bv cv=some P:=hP;unfold mR at hP;split at hP
 case isFalse=>cases hP
 rename_i ht;unfold LH at ht;simp only[cJ] at ht;exact alk dU wJ ht.2.2.2.2.2 (hc.2 (.inr (.inr rfl)) av aa)
def ajB(g:cE F L){X:ai}(hk:k5 m.k)(h:fi F L m=some X):pI F L m.k m.a m.b m.c m.l m.o m.s=l5 F X:=by
 obtain⟨_,hA,P,hP,rfl⟩:=By g hk h;have hg:mJ m.k=(0,0):=by unfold k5 at hk;rcases hk with h|h|h|h|h<;>rw[h]<;>rfl
 have k1:=g.len;have k2:=g.cr;unfold pI;rw[aG hA,hP];exact aC (by rw[hg];dsimp only;omega)
def aav(g:cE F L){want:d_}(lh:want.length<=10)(hw:∀k∈want,uf k){ms:h_}(hs:aO S 45 [fe F L,.one (.p (.sl (iP want)))] (.tup [.one (bh iT 7 (mP ms)),.one (.p (.int .i64 0))])){X:ai}(hm:m.k∈want)(h:fi F L m=some X):m∈ms:=by obtain⟨O1,⟨_,_,hc⟩,hs'⟩:=ai4 g want lh hw;rw[ant (aO.AL hs hs')];have hk:k5 m.k:=hw _ hm;obtain⟨ns,h1,h2⟩:=hc m.k hm (by unfold k5 at hk;omega) (by unfold k5 at hk;omega);exact h2 m (akF g hk h h1) ⟨X,ajB g hk h⟩
def agv(h:cX (F:Int) L=0){want:d_}(hw:∀k∈want,uf k)(hm:qW F L want m):m.k∈want/\cE F L/\ ∃X,fi F L m=some X/\cX (F:Int) X=0:=by
 obtain⟨h1,⟨a,ha,_⟩,X,hX⟩:=hm;have aK:L≠[]:=fun e=>by rw[e] at ha;simp at ha
 obtain⟨G,e,g⟩:=pM h aK;have:F=G:=aa;subst this;have h2:=Wd aK hX;exact⟨h1,g,X,h2,(By g (hw _ h1) h2).1⟩
def UX(F:Nat)(L:ai):Prop:= ∃m X,(m.k=1\/m.k=4\/m.k=6)/\fi F L m=some X
def asv(h:cX (F:Int) L=0)(hr:UX F L):cE F L:=by
 obtain⟨m,X,hk,hm⟩:=hr;by_cases aK:L=[]
 .subst aK;unfold fi at hm;rw[aG rfl] at hm;split at hm
  .rename_i hA;obtain⟨bv,k1,_⟩:=aaN hA;omega
  cases hm
 obtain⟨G,e,g⟩:=pM h aK;have:F=G:=aa;subst this;exact g
def af9(h:cX (F:Int) L=0):Ie F L↔ ¬UX F L:=by
 constructor
 .intro hn hr;have g:=asv h hr;obtain⟨m,X,hk,hm⟩:=hr;have:=aav g (want:=xl) ae UW (ms:=[]) hn (show m.k∈xl by simp;omega) hm;cases this
 intro hr;obtain⟨ms,⟨_,ay⟩,hs⟩:=VQ h xl ae UW;cases ms with
 |nil=>exact hs
 |cons m ms=>exfalso;obtain⟨h1,_,X,h2,_⟩:=agv h UW (ay m af);exact hr ⟨m,X,by simpa using h1,h2⟩
def asq(h:cX (F:Int) L=0):(zU F L).2=false↔ ¬UX F L:=by
 obtain⟨_,h2,h3⟩:=ag9 h;constructor
 .intro hf;exact(af9 h).1 (h3 hf)
 intro hr;cases hb:(zU F L).2 with
 |false=>rfl
 |true=>exact absurd ((af9 h).2 hr) (h2 hb).2
end
def agp{A:ai}(g:cE F A):(dd A).length=A.length:=(acB g.even g.sB.2.1).1
def amI{A B:ai}(gA:cE F A)(hB:cX (F:Int) B=0)(h:dd A=dd B):cE F B:=by
 have aK:B≠[]:=fun e=>by have h1:=agp gA;rw[h,e] at h1;have h2:=jQ.2 gA.ne;have h3:(dd ([]:ai)).length=0:=rfl;omega
 obtain⟨G,e,g⟩:=pM hB aK;have:F=G:=aa;subst this;exact g
def W4{A B:ai}(hA:cE F A)(h:lI A B):dd A=dd B:=by unfold dd;rw[aqL hA.even h]
def YN{L:ai}(h:cX (F:Int) L=0)(hm:m∈jl F L):(m.k=3\/m.k=8)/\cE F L/\ ∃X,fi F L m=some X/\cX (F:Int) X=0:=by obtain⟨⟨_,ay⟩,_⟩:=YM h;obtain⟨h1,h2,h3⟩:=agv h YP (ay m hm);exact⟨by simpa using h1,h2,h3⟩
def YO{L:ai}(g:cE F L){X:ai}(hk:m.k=3\/m.k=8)(h:fi F L m=some X):m∈jl F L:=by obtain⟨_,hs⟩:=YM g.chk;exact aav g ae YP hs (show m.k∈zO by simp;omega) h
def Qe{a b:ByteArray}:(a==b)=true↔a=b:=by
 cases a with|mk x=>cases b with|mk y=>
 show(x==y)=true↔_;rw[dh,ByteArray.mk.injEq]
section
variable {sb:Bool} {F limit:Nat}
def Cs(F:Nat)(st:m_)(M:ai):Prop:=(st.map (bj.key F)).any (fun s=>oU (F:Int) (dd M)==s)=true
def Cs.app{st:m_}{M:ai}(h:Cs F st M)(t:m_):Cs F (st++t) M:=by unfold Cs at h |-;rw[ki,List.any_append,h,Bool.true_or]
def Cs.mem{st:m_}{M:ai}(h:Cs F st M):∃y∈st,oU (F:Int) (dd M)=oU (F:Int) y.n:=by obtain⟨s,hs,e⟩:=u5.1 h;obtain⟨y,hy,rfl⟩:=cV.1 hs;exact⟨y,hy,Qe.1 e⟩
def aaI(a:bj)(st:m_)(m:aV):∃t,(kA sb F limit a st m).2=st++t:=by
 unfold kA;split
 .exact⟨[],af⟩
 split
 .exact⟨[],af⟩
 exact⟨_,rfl⟩
def ajr{a:bj}{st:m_}(h:(kA sb F limit a st m).1=0):Cs F (kA sb F limit a st m).2 ((fi F a.c m).getD []):=by
 unfold kA at h |-;split
 .rename_i h1;exact h1
 rename_i h1;rw[aC h1] at h;split
 .rename_i h2;rw[aG h2] at h;cases h
 unfold Cs;rw[ki,List.any_append,vU];refine .inr (u5.2 ⟨_,cV.2 ⟨_,lQ.2 rfl,rfl⟩,Qe.2 rfl⟩)
def V0(a:bj):∀(ms:h_) (st:m_),∃t,(iO sb F limit a st ms).2=st++t:=by
 intro ms
 induction ms with
 |nil=>intro st;exact⟨[],by rw[jJ];rfl⟩
 |cons m r ih=>
  intro st;rw[IZ];obtain⟨t,ht⟩:=aaI (sb:=sb) (F:=F) (limit:=limit) a st m;split
  .obtain⟨u,hu⟩:=ih (kA sb F limit a st m).2;exact⟨t++u,by rw[hu,ht,vW]⟩
  exact⟨t,ht⟩
def ajo{a:bj}:∀ {ms:h_} {st:m_},(iO sb F limit a st ms).1=0->∀m∈ms,Cs F (iO sb F limit a st ms).2 ((fi F a.c m).getD []):=by
 intro ms
 induction ms with
 |nil=>intro st _ m hm;cases hm
 |cons m r ih=>
  intro st h x hx;rw[IZ] at h |-;by_cases h1:(kA sb F limit a st m).1=0
  .rw[aG h1] at h |-;rcases ch.1 hx with rfl|hx
   .obtain⟨u,hu⟩:=V0 (sb:=sb) (F:=F) (limit:=limit) a r (kA sb F limit a st x).2;rw[hu];exact(ajr h1).app u
   exact ih h x hx
  rw[aC h1] at h;exact absurd h h1
def aa4:∀(f i:Nat) (st:m_),∃t,(lH sb F limit f i st).2=st++t:=by
 intro f
 induction f with
 |zero=>intro i st;exact⟨[],by rw[jJ];rfl⟩
 |succ f ih=>
  intro i st;unfold lH;split
  .exact⟨[],by rw[jJ]⟩
  rename_i a _;obtain⟨t,ht⟩:=V0 (sb:=sb) (F:=F) (limit:=limit) a (jl F a.c) st;split
  .obtain⟨u,hu⟩:=ih (i+1) (iO sb F limit a st (jl F a.c)).2;exact⟨t++u,by rw[hu,ht,vW]⟩
  exact⟨t,ht⟩
def akn:∀(f i:Nat) (st:m_),limit+1<=f+i->st.length<=limit->(lH sb F limit f i st).1=0->∀j x,i<=j->(lH sb F limit f i st).2[j]?=some x->∀m∈jl F x.c,Cs F (lH sb F limit f i st).2 ((fi F x.c m).getD []):=by
 intro f
 induction f with
 |zero=>intro i st h1 h2 _ j x hj hx;have hx:st[j]?=some x:=hx;have:=(aW.1 hx).1;omega
 |succ f ih=>
  intro i st h1 h2 h3 j x hj hx m hm;cases hs:st[i]? with
  |none=>
   have e:lH sb F limit (f+1) i st=(0,st):=by rw[lH,hs]
   rw[e] at hx;have hx:st[j]?=some x:=hx;have:=(aW.1 hx).1;have:=List.getElem?_eq_none_iff.1 hs;omega
  |some a=>
   by_cases ha:(iO sb F limit a st (jl F a.c)).1=0
   .have e:lH sb F limit (f+1) i st=lH sb F limit f (i+1) (iO sb F limit a st (jl F a.c)).2:=by rw[lH,hs];exact aG ha
    rw[e] at h3 hx |-;by_cases e2:j=i
    .subst e2;obtain⟨t,ht⟩:=V0 (sb:=sb) (F:=F) (limit:=limit) a (jl F a.c) st;obtain⟨u,hu⟩:=aa4 (sb:=sb) (F:=F) (limit:=limit) f (j+1) (iO sb F limit a st (jl F a.c)).2;have aB:=(aW.1 hs).1;have h5:(lH sb F limit f (j+1) (iO sb F limit a st (jl F a.c)).2).2[j]?=some a:=by
      rw[hu,ht,vW,xB aB];exact hs
     rw[h5] at hx;cases hx;rw[hu];exact(ajo ha m hm).app u
    exact ih (i+1) _ aa (VZ h2) h3 j x aa hx m hm
   have e:lH sb F limit (f+1) i st=iO sb F limit a st (jl F a.c):=by rw[lH,hs];exact aC ha
   rw[e] at h3;exact absurd h3 ha
def ak5(jM:1<=limit){L0:ai}(dV:∀x∈(gK sb F limit L0).2,uw F L0 (gK sb F limit L0).2.length x)(h:(gK sb F limit L0).1=0):∀x∈(gK sb F limit L0).2,∀m∈jl F x.c,∃y∈(gK sb F limit L0).2,y.n=dd ((fi F x.c m).getD []):=by intro x hx m hm;obtain⟨j,hj⟩:=ia hx;have:=akn (sb:=sb) (F:=F) (limit:=limit) (limit+1) 0 [⟨L0,dd L0,[]⟩] aa jM h j x (cA _) hj m hm;obtain⟨y,hy,e⟩:=this.mem;obtain⟨_,_,X,hX,NL⟩:=YN (dV x hx).chk hm;refine⟨y,hy,?_⟩;have gy:=dV y hy;rw[hX] at e |-;have e:oU (F:Int) (dd X)=oU (F:Int) y.n:=e;rw[gy.sB] at e |-;exact(ase (yC NL) (yC gy.chk) e).symm
def ZN:∀(L M:x_),L.Nodup->(∀x∈L,x∈M)->L.length<=M.length:=by
 intro L
 induction L with
 |nil=>intro M _ _;exact cA _
 |cons x L ih=>intro M hn hs;obtain⟨h1,h2⟩:=rj.1 hn;have hx:=hs x af;have:=ih (M.erase x) h2 fun y hy=>(List.mem_erase_of_ne (fun e:y=x=>h1 (by rw[<- e];exact hy))).2 (hs y (by simp[hy]));rw[VJ hx] at this;have:=L7 hx;simp only[dL];omega
structure ShT (sb:Bool) (F limit:Nat) (T:x_):Prop where
 cl:∀(A X:ai) (m:aV),cX (F:Int) A=0->dd A∈T->m∈jl F A->fi F A m=some X->dd X∈T
 nr:sb=true->∀A:ai,cX (F:Int) A=0->dd A∈T-> ¬UX F A
 len:T.length<=limit
structure CU (F:Nat) (T:x_) (st:m_):Prop where
 mem:∀y∈st,cX (F:Int) y.c=0/\y.n=dd y.c/\y.n∈T
 nd:(st.map bj.n).Nodup
def ajq{T:x_}(hT:ShT sb F limit T){a:bj}{st:m_}(h:CU F T st)(ha:a∈st)(hm:m∈jl F a.c):(kA sb F limit a st m).1=0/\CU F T (kA sb F limit a st m).2:=by
 obtain⟨ca,na,ta⟩:=h.mem a ha;obtain⟨_,_,X,hX,NL⟩:=YN ca hm;have hXT:dd X∈T:=hT.cl a.c X m ca (na▸ta) hm hX;unfold kA;rw[hX];show(if _ then _ else if _ then _ else ((if (sb&&(zU F X).2)=true then 2 else 0,st++[(⟨X,dd X,a.w++[m]⟩:bj)]):Nat×m_)).1=0/\CU F T (if _ then _ else if _ then _ else ((if (sb&&(zU F X).2)=true then 2 else 0,st++[(⟨X,dd X,a.w++[m]⟩:bj)]):Nat×m_)).2;by_cases hk:(st.map (bj.key F)).any (fun s=>oU (F:Int) (dd X)==s)=true
 .have e:(if (List.map (bj.key F) st).any (fun s=>oU (F:Int) (dd X)==s)=true then ((0,st):Nat×m_) else if st.length=limit then (1,st) else (if (sb&&(zU F X).2)=true then 2 else 0,st++[(⟨X,dd X,a.w++[m]⟩:bj)]))=(0,st):=aG hk;exact⟨congrArg Prod.fst e,by
   have:=congrArg Prod.snd e;exact this▸h⟩
 have HD:dd X∉st.map bj.n:=fun jC=>by obtain⟨y,hy,e⟩:=cV.1 jC;exact hk (u5.2 ⟨y.key F,cV.2 ⟨y,hy,rfl⟩,by unfold bj.key;rw[e];exact Qe.2 rfl⟩)
 have gH:((st++[(⟨X,dd X,a.w++[m]⟩:bj)]).map bj.n).Nodup:=by rw[ki,EL];refine⟨h.nd,af,fun x hx y hy=>?_⟩;rw[lQ.1 hy];exact fun e=>HD (by have e:x=dd X:=e;rw[<- e];exact hx)
 have mj:∀y∈st++[(⟨X,dd X,a.w++[m]⟩:bj)],cX (F:Int) y.c=0/\y.n=dd y.c/\y.n∈T:=fun y hy=>by
  rcases eX.1 hy with hy|hy
  .exact h.mem y hy
  rw[lQ.1 hy];exact⟨NL,rfl,hXT⟩
 have hlen:=ZN _ T gH fun x hx=>by obtain⟨y,hy,rfl⟩:=cV.1 hx;exact(mj y hy).2.2
 have tj:=hT.len;rw[cU,gJ] at hlen;have hlen:st.length+1<=T.length:=hlen;have pZ:(sb&&(zU F X).2)=false:=by
  cases sb with
  |false=>rfl
  |true=>rw[(asq NL).2 (hT.nr rfl X NL hXT)];rfl
 have e:(if (List.map (bj.key F) st).any (fun s=>oU (F:Int) (dd X)==s)=true then ((0,st):Nat×m_) else if st.length=limit then (1,st) else (if (sb&&(zU F X).2)=true then 2 else 0,st++[(⟨X,dd X,a.w++[m]⟩:bj)]))=(0,st++[(⟨X,dd X,a.w++[m]⟩:bj)]):=by rw[aC hk,aC aa,pZ];rfl
 exact⟨congrArg Prod.fst e,by
  have:=congrArg Prod.snd e;exact this▸⟨mj,gH⟩⟩
def ajn{T:x_}(hT:ShT sb F limit T){a:bj}:∀ {ms:h_} {st:m_},CU F T st->a∈st->(∀m∈ms,m∈jl F a.c)->(iO sb F limit a st ms).1=0/\CU F T (iO sb F limit a st ms).2:=by
 intro ms
 induction ms with
 |nil=>intro st h _ _;exact⟨rfl,h⟩
 |cons m r ih=>intro st h ha hm;rw[IZ];obtain⟨h1,h2⟩:=ajq hT h ha (hm m af);rw[aG h1];obtain⟨t,ht⟩:=aaI (sb:=sb) (F:=F) (limit:=limit) a st m;exact ih h2 (by rw[ht];exact Gl _ ha) fun x hx=>hm x (by simp[hx])
def akl{T:x_}(hT:ShT sb F limit T):∀(f i:Nat) (st:m_),CU F T st->(lH sb F limit f i st).1=0/\CU F T (lH sb F limit f i st).2:=by
 intro f
 induction f with
 |zero=>intro i st h;exact⟨rfl,h⟩
 |succ f ih=>
  intro i st h;cases hs:st[i]? with
  |none=>
   have e:lH sb F limit (f+1) i st=(0,st):=by rw[lH,hs]
   rw[e];exact⟨rfl,h⟩
  |some a=>
   obtain⟨h1,h2⟩:=ajn hT (a:=a) h (aZ hs) fun m hm=>hm;have e:lH sb F limit (f+1) i st=lH sb F limit f (i+1) (iO sb F limit a st (jl F a.c)).2:=by rw[lH,hs];exact aG h1
   rw[e];exact ih _ _ h2
end
abbrev sF(n f v:Nat):Nat:=(v+n-f)%n
def zY{n v:Nat}(h:f<n):sF n f v<n:=dk _ aa
def ahv{n v:Nat}(hf:f<n)(hv:v<n):sF n f ((f+v)%n)=v:=by unfold sF;rw[Bf (a:=f+v) aa];split<;>(rw[Bf aa];split<;>omega)
def Vq{n v:Nat}(hf:f<n)(hv:v<n):(f+sF n f v)%n=v:=by unfold sF;rw[Nat.add_mod_mod,show f+(v+n-f)=v+n by omega,n9,fX hv]
def ZA{n v:Nat}(hf:f<n)(hv:v<n):sF n f ((v+1)%n)=(sF n f v+1)%n:=by
 unfold sF;rw[yP,Bf (a:=v+1) aa];split
 .congr 1;omega
 rw[show v+n-f+1=(v+1-n+n-f)+n by omega,n9]
def Bm{n u v:Nat}(hf:f<n)(hu:u<n)(hv:v<n)(e:sF n f u=sF n f v):u=v:=by rw[<- Vq hf hu,<- Vq hf hv,e]
structure Sh (F:Nat) (P:c_) (X:ai) (f:Nat):Prop where
 g:cE F X
 len:X.length=P.length
 hf:f<P.length
 at_:∀v p,P[v]?=some p->X[sF P.length f v]?=some p.l
 dn:∀v p,P[v]?=some p->p.l.aF=true->dn X (sF P.length f v)=p.d
def Xd{P:c_}(cP:Cert F P)(vX:cX (F:Int) (dT P)=0):∃f,Sh F P (dT P) f:=by
 obtain⟨f,hf,a1,al,_,a2⟩:=Qi cP;have aK:dT P≠[]:=fun e=>by rw[e] at al;simp at al;omega
 obtain⟨G,e1,g⟩:=pM vX aK;have:F=G:=aa;subst this;refine⟨f,g,al,hf,fun v p hp=>?_,fun v p hp fG=>?_⟩
 .have hv:=(aW.1 hp).1;rw[a1 _ (zY hf),Vq hf hv,hp];rfl
 have hv:=(aW.1 hp).1;exact(a2 _ p (zY hf) (by rw[Vq hf hv];exact hp) fG).symm
section
variable {F:Nat} {L X:ai} {P:c_} {f:Nat}
def Sh.back(S:Sh F P X f)(g:cE F L)(hP:P.length=L.length){Q:c_}(cQ:Cert F Q)(hQ:Q.length=L.length)(h:∀v,v<L.length->Q[sF L.length f v]?=(pieces L)[v]?):lI (dT Q) L:=by
 obtain⟨f1,vv,b1,bl,⟨q0,OE,qp0,qd0⟩,_⟩:=Qi cQ;have hf:=S.hf;rw[hP] at hf;rw[hQ] at vv b1 bl;have hn:0<L.length:=aa;have get:∀x,x<L.length->Q[x]?=(pieces L)[(f+x)%L.length]? :=fun x hx=>by rw[<- h _ (dk _ hn),ahv hf hx]
 have hj:(f+f1)%L.length<L.length:=dk _ hn;have e:dT Q=eU L ((f+f1)%L.length):=by
  apply xA;intro k;by_cases hk:k<L.length
  .rw[b1 k hk,get _ (dk _ hn),Lt hj hk,Nat.add_mod_mod,<- EM,yP];obtain⟨l,hl⟩:=aN (ls:=L) (k:=(f+f1+k)%L.length) (dk _ hn);rw[jm hl,hl];rfl
  rw[nZ aa,nZ (by rw[yG];omega)]
 rw[e];refine Tu aa g.even ?_;rw[get f1 vv] at OE;obtain⟨l,hl⟩:=aN hj;rw[jm hl] at OE;have hd:eW L ((f+f1)%L.length)=true:=by rw[<- pz OE] at qd0;exact qd0
 unfold eW at hd;rw[hl] at hd;have hd:(l.aF&&Go.Abs.dn L ((f+f1)%L.length))=true:=hd;rw[cJ] at hd;have:=hd.2;unfold Go.Abs.dn at this;exact dh.1 this
def kM(n f d:Nat):Nat:=if d%2=0 then 2*sF n f (d/2)+1 else 2*sF n f (d/2)
def GI(n f d:Nat):kM n f d/2=sF n f (d/2):=by unfold kM;split<;>omega
def aa5{n d:Nat}(hf:f<n)(hd:d<2*n):kM n f d=dB n (sF n f (oH n d)) (!ba d):=by
 have hs:=zY (v:=d/2) hf;unfold kM dB oH ba;rcases u9 d with h|h
 .simp only[h,if_true,Ak,Ad,dR,if_false];rw[ZA hf aa,vI hs]
 simp only[h,show((1:Nat)==0)=false from rfl,Gi,if_true,Ma,if_false]
def aa6{n d:Nat}(hf:f<n)(hd:d<2*n):kM n f d=fZ n (sF n f (oT n d)) (!ba d):=by
 have hs:=zY (v:=d/2) hf;unfold kM fZ oT ba;rcases u9 d with h|h
 .simp only[h,if_true,Ak,Ad,dR,if_false]
 simp only[h,show((1:Nat)==0)=false from rfl,Gi,if_true,Ma,if_false];rw[ZA hf aa,vI hs]
def Wl{n d:Nat}(hf:f<n):kM n f d<2*n:=by have:=zY (v:=d/2) hf;unfold kM;split<;>omega
def Sh.aiv(S:Sh F P X f)(g:cE F L)(hP:P.length=L.length){d:Nat}(hd:d<2*L.length){l m:Let}{e e':Bool}(hl:L[oH L.length d]?=some l)(hc:l.aD=true)(hT:P[oT L.length d]?=some ⟨l,e⟩)(hH:P[oH L.length (aQ L d)]?=some ⟨m,e'⟩)(cm:m.aD=true)(hid:m.id=l.id)(aK:oT L.length d≠oH L.length (aQ L d)):aQ X (kM L.length f d)=kM L.length f (aQ L d):=by have hf:=S.hf;have AU:=S.len;have a1:=S.at_ _ _ hT;have a2:=S.at_ _ _ hH;rw[hP] at hf AU a1 a2;obtain⟨k1,k2,k3,_⟩:=Dl g hd hl hc;have h1:=Ih g hd;have h2:=yD g k1;rw[aa6 hf hd,aa5 hf k1];have ho:=F9 S.g a1 a2 hc cm hid.symm fun e2=>aK (Bm hf h1 h2 e2);have ht:=yK a1 hc (!ba d);rw[AU,ho] at ht;rw[ht];have e3:(l.over==(l.sign==1))=(ba d==ba (aQ L d)):=k3;show dB _ _ ((!ba d)==(l.over==(l.sign==1)))=_;rw[e3];congr 1;cases ba d<;>cases ba (aQ L d)<;>rfl
def agy(g:cE F X){p q r:Nat}(pq:p≠q)(pr:p≠r)(qr:q≠r)(lp:p<nD X)(lq:q<nD X)(lr:r<nD X)(np:aQ X p=q)(nq:aQ X q=r)(nr:aQ X r=p){es:a_}{pl:Nat}
  (h1:([p,q,r].filter fun x=>decide (x<2*X.length)).length=es.length) (h2:u4 F X p+u4 F X q+u4 F X r=pl)
  (h3:∀e∈es,(2*e∈([p,q,r].filter fun x=>decide (x<2*X.length))/\2*e+1∉([p,q,r].filter fun x=>decide (x<2*X.length)))\/(2*e∉([p,q,r].filter fun x=>decide (x<2*X.length))/\2*e+1∈([p,q,r].filter fun x=>decide (x<2*X.length)))):vM F X pl es=true:=by
 have inj:=(maps g.ok).inj;obtain⟨w,hw,pY⟩:=Z6 lp;have hqw:=yL (maps g.ok) hw pY;rw[np] at hqw;have hrw:=yL (maps g.ok) hw hqw;rw[nq] at hrw;obtain⟨gH,_,_⟩:=VC g hw;have hp:w.Perm [p,q,r]:=(VL gH (by simp[pq,pr,qr])).2 fun z=>by
  simp only[ch,eL,or_false];constructor
  .intro hz;refine(VB g hw (Q:=fun t=>t=p\/t=q\/t=r) (fun t ht=>⟨?_,?_⟩) pY hz).1 (.inl rfl)
   .rintro (h|h|h)
    .exact .inr (.inr (inj _ _ ht lr (h.trans nr.symm)))
    .exact .inl (inj _ _ ht lp (h.trans np.symm))
    exact .inr (.inl (inj _ _ ht lq (h.trans nq.symm)))
   rintro (h|h|h)<;>rw[h]
   .exact .inr (.inl np)
   .exact .inr (.inr nq)
   exact .inl nr
  rintro (rfl|rfl|rfl)<;>assumption
 unfold vM;rw[u5];refine⟨mf F X w,cV.2 ⟨w,hw,rfl⟩,?_⟩;unfold Ik;simp only[cJ,dh,gj];rw[BG,acF];have hf:=hp.filter fun x=>decide (x<2*X.length);refine⟨hf.length_eq.trans h1,?_,fun e he=>?_⟩
 .rw[(hp.map _).sum_nat,<- h2];simp only[eD,kL,List.sum_cons,List.sum_nil];omega
 rw[decide_eq_decide.2 hf.mem_iff,decide_eq_decide.2 hf.mem_iff];rcases h3 e he with ⟨h4,h5⟩|⟨h4,h5⟩
 .rw[xH h4,xG h5];rfl
 rw[xG h4,xH h5];rfl
end
section
variable {F:Nat} {L X:ai} {P:c_} {f:Nat}
def Pq:∀ {es:a_} {Z:c_},Z.length=L.length->(∀e∈es,e<L.length)->es.Pairwise (rW L)->(∀e∈es,e≠nx L e)->(∀e∈es,(dC L Z es)[e]?=Z[nx L e]? /\(dC L Z es)[nx L e]?=Z[e]?)/\ ∀x,(∀e∈es,x≠e/\x≠nx L e)->(dC L Z es)[x]?=Z[x]? :=by
 intro es
 induction es with
 |nil=>intro Z _ _ _ _;exact⟨fun e he=>(nomatch he),fun x _=>rfl⟩
 |cons e es ih=>
  intro Z hZ he hd hn;obtain⟨d1,d2⟩:=mB.1 hd;obtain⟨i1,i2⟩:=ih (Z:=eN L Z e) (by rw[tJ,hZ]) (fun x h=>he x (by simp[h])) d2 (fun x h=>hn x (by simp[h]));have dy:=he e af;have gt:∀x,(eN L Z e)[x]?=_:=fun x=>vQ hZ dy x;have en:=hn e af;refine⟨fun x hx=>?_,fun x hx=>?_⟩
  .show(dC L (eN L Z e) es)[x]?=_/\(dC L (eN L Z e) es)[nx L x]?=_;rcases ch.1 hx with rfl|hx
   .rw[i2 x fun y hy=>⟨(d1 y hy).1,(d1 y hy).2.1⟩,i2 (nx L x) fun y hy=>⟨(d1 y hy).2.2.1,(d1 y hy).2.2.2⟩,gt,gt,aC en,aG rfl,aG rfl];exact⟨rfl,rfl⟩
   obtain⟨k1,k2⟩:=i1 x hx;obtain⟨q1,q2,q3,q4⟩:=d1 x hx;rw[k1,k2,gt,gt,aC (Ne.symm q4),aC (Ne.symm q2),aC (Ne.symm q3),aC (Ne.symm q1)];exact⟨rfl,rfl⟩
  show(dC L (eN L Z e) es)[x]?=_;rw[i2 x fun y hy=>hx y (by simp[hy]),gt,aC (hx e af).2,aC (hx e af).1]
def auI{es:a_}{Z:c_}(hZ:Z.length=L.length)(he:∀e∈es,e<L.length)(hd:es.Pairwise (rW L))(hn:∀e∈es,e≠nx L e):dC L (dC L Z es) es=Z:=by
 obtain⟨a1,a2⟩:=Pq hZ he hd hn;obtain⟨b1,b2⟩:=Pq (Z:=dC L Z es) (by rw[qy,hZ]) he hd hn;apply xA;intro x;rcases Classical.em (∃e∈es,x=e\/x=nx L e) with ⟨e,hm,h⟩|h
 .rcases h with rfl|rfl
  .rw[(b1 x hm).1,(a1 x hm).2]
  rw[(b1 e hm).2,(a1 e hm).1]
 have h2:∀e∈es,x≠e/\x≠nx L e:=fun e hm=>⟨fun k=>h ⟨e,hm,.inl k⟩,fun k=>h ⟨e,hm,.inr k⟩⟩;rw[b2 x h2,a2 x h2]
def Sh.nx(S:Sh F P X f)(hP:P.length=L.length){v:Nat}(hv:v<L.length):Go.Abs.nx X (sF L.length f v)=sF L.length f (Go.Abs.nx L v):=by have hf:=S.hf;rw[hP] at hf;show(_+1)%X.length=_;rw[S.len,hP,<- ZA hf hv]
def Sh.sw(S:Sh F P X f)(hP:P.length=L.length):∀ {es:a_} {Y Z:c_},Y.length=L.length->Z.length=L.length->(∀e∈es,e<L.length)->(∀v,v<L.length->Y[sF L.length f v]?=Z[v]?)->∀v,v<L.length->(dC X Y (es.map (sF L.length f)))[sF L.length f v]?=(dC L Z es)[v]? :=by
 have hf:=S.hf;have hX:=S.len;rw[hP] at hf hX;intro es
 induction es with
 |nil=>intro Y Z _ _ _ h;exact h
 |cons e es ih=>
  intro Y Z hY hZ he h;have dy:=he e af;have hn:Go.Abs.nx L e<L.length:=dk _ aa;refine ih (Y:=eN X Y (sF L.length f e)) (Z:=eN L Z e) (by rw[tJ,hY]) (by rw[tJ,hZ]) (fun x hx=>he x (by simp[hx])) fun v hv=>?_;rw[vQ (by rw[hX,hY]) (by rw[hX];exact zY hf),vQ hZ dy,S.nx hP dy];by_cases c1:v=Go.Abs.nx L e
  .subst c1;rw[aG rfl,aG rfl,h _ dy]
  rw[aC c1,aC fun k=>c1 (Bm hf hv hn k)];by_cases c2:v=e
  .subst c2;rw[aG rfl,aG rfl,h _ hn]
  rw[aC c2,aC fun k=>c2 (Bm hf hv dy k),h _ hv]
def Sh.Cx(S:Sh F P X f)(hP:P.length=L.length)(hd:∀p∈P,p.l.aF=false->p.d=false){v:Nat}(hv:v<L.length):(pieces X)[sF L.length f v]?=P[v]? :=by
 obtain⟨p,hp⟩:=aN (ls:=P) (k:=v) aa;have h1:=S.at_ v p hp;have h2:=S.dn v p hp;rw[hP] at h1 h2;rw[jm h1,hp];have:eW X (sF L.length f v)=p.d:=by
  unfold eW;rw[h1];show(p.l.aF&&Go.Abs.dn X (sF L.length f v))=p.d;cases fG:p.l.aF with
  |true=>rw[h2 fG];rfl
  |false=>rw[hd p (aZ hp) fG];rfl
 rw[this]
def ais(g:cE F L){a b c:Nat}(ha:a<L.length)(hb:b<L.length)(hc:c<L.length)(h:vR F L [a,b,c] a=true):[a,b,c].Pairwise (rW L)/\(∀e∈[a,b,c],(bJ L e).kind=2/\(bJ L (nx L e)).kind=2)/\ ∃d1 d2 d3,d1<2*L.length/\d2<2*L.length/\d3<2*L.length/\aQ L d1=d2/\aQ L d2=d3/\aQ L d3=d1/\((d1/2=a/\d2/2=b/\d3/2=c)\/(d1/2=a/\d2/2=c/\d3/2=b)):=by
 unfold vR at h;simp only[cJ,dh] at h;obtain⟨fg,h6,_,_,_,yf⟩:=h;have dj:=ZR (L:=L) (es:=[a,b,c]) rfl h6;have kk:∀e∈[a,b,c],(bJ L e).kind=2/\(bJ L (nx L e)).kind=2:=fun e he=>by have h1:=gj.1 fg e he;unfold ru at h1;rw[cJ,dh,dh] at h1;exact h1
 refine⟨dj,kk,?_⟩;have ok:=g.ok;obtain⟨j1,j2⟩:=mB.1 dj;have jab:=j1 b af;have jac:=j1 c af;have jbc:=(mB.1 j2).1 c af;have hn:0<L.length:=aa;obtain⟨w,hw,_,hlen,hE⟩:=Qm g ha yf;obtain⟨da,tS,qE,tU⟩:=hE a af;obtain⟨db,uB,rz,tV⟩:=hE b af;obtain⟨dc,Fg,yY,yZ⟩:=hE c af;have hN:∀d,d<2*L.length->d<nD L:=fun d hd=>by unfold nD;omega
 have three:∀d,d∈w->d<2*L.length->d=da\/d=db\/d=dc:=fun d h1 h2=>by
  have inD:∀d,d∈w->d<2*L.length->d∈w.filter fun x=>decide (x<2*L.length):=fun d h1 h2=>uv.2 ⟨h1,by simpa using h2⟩;have q1:=inD da tS qE;have q2:=inD db uB rz;have q3:=inD dc Fg yY;have q4:=inD d h1 h2;generalize w.filter (fun x=>decide (x<2*L.length))=D at hlen q1 q2 q3 q4
  match D,hlen with
  |[x,y,z],_=>simp only[ch,eL,or_false] at q1 q2 q3 q4;have:=jab.1;have:=jac.1;have:=jbc.1;omega
 have Hq:∀d,d<2*L.length->d/2∈[a,b,c]->∃l,L[oH L.length d]?=some l/\l.aD=true:=fun d hd he=>by
  obtain⟨h1,h2⟩:=kk _ he;obtain⟨l,hl⟩:=aN (yD g hd);refine⟨l,hl,?_⟩;have h3:=iL hl;have:(bJ L (oH L.length d)).kind=2:=by
   unfold oH;split
   .exact h2
   exact h1
  rw[h3] at this;unfold Let.aD;rw[this];rfl
 have step:∀d,d∈w->d<2*L.length->d/2∈[a,b,c]->aQ L d=da\/aQ L d=db\/aQ L d=dc:=fun d hd hl he=>by obtain⟨l,h1,h2⟩:=Hq d hl he;exact three _ (yL (maps ok) hw hd) (Dl g hl h1 h2).1
 have nab:da≠db:=fun e=>jab.1 (by rw[<- tU,<- tV,e]);have nac:da≠dc:=fun e=>jac.1 (by rw[<- tU,<- yZ,e]);have nbc:db≠dc:=fun e=>jbc.1 (by rw[<- tV,<- yZ,e]);rcases aiq g hw tS uB Fg nab nac nbc (hN _ qE) (hN _ rz) (hN _ yY) (step da tS qE (by rw[tU];simp)) (step db uB rz (by rw[tV];simp)) (step dc Fg yY (by rw[yZ];simp)) with ⟨h1,h2,h3⟩|⟨h1,h2,h3⟩
 .exact⟨da,db,dc,qE,rz,yY,h1,h2,h3,.inl ⟨tU,tV,yZ⟩⟩
 exact⟨da,dc,db,qE,yY,rz,h1,h2,h3,.inr ⟨tU,yZ,tV⟩⟩
def agM{p:Pc}(h:p∈pieces L)(hp:p.l.aF=false):p.d=false:=by obtain⟨v,hv⟩:=ia h;have hl:=(aW.1 hv).1;rw[bk] at hl;obtain⟨l,hx⟩:=aN hl;rw[jm hx] at hv;cases hv;have hp:l.aF=false:=hp;show eW L v=false;unfold eW;rw[hx];show(l.aF&&dn L v)=false;rw[hp];rfl
def aie{p:Pc}:∀ {es:a_} {Z:c_},Z.length=L.length->(∀e∈es,e<L.length)->p∈dC L Z es->p∈Z:=by
 intro es
 induction es with
 |nil=>intro Z _ _ h;exact h
 |cons e es ih=>
  intro Z hZ he h;have h:=ih (Z:=eN L Z e) (by rw[tJ,hZ]) (fun x hx=>he x (by simp[hx])) h;obtain⟨v,hv⟩:=ia h;rw[vQ hZ (he e af)] at hv;split at hv
  .exact aZ hv
  split at hv<;>exact aZ hv
def au2(g:cE F L){a b c:Nat}(ha:a<L.length)(hb:b<L.length)(hc:c<L.length)(h:vR F L [a,b,c] a=true)(S:Sh F (dC L (pieces L) [a,b,c]) X f):vM F X 0 [sF L.length f a,sF L.length f b,sF L.length f c]=true:=by
 obtain⟨dj,kk,d1,d2,d3,l1,l2,l3,n1,n2,n3,aoD⟩:=ais g ha hb hc h;have bd:=bk L;have gG:∀e∈[a,b,c],e<L.length:=fun e he=>by simp only[ch,eL,or_false] at he;rcases he with rfl|rfl|rfl<;>assumption
 have hP:(dC L (pieces L) [a,b,c]).length=L.length:=by rw[qy,bd]
 have hf:=S.hf;have hX:=S.len;rw[hP] at hf hX;obtain⟨s1,_⟩:=Pq bd gG dj fun e he=>Bg g (gG e he);have ends:∀d,d/2∈[a,b,c]->(dC L (pieces L) [a,b,c])[oT L.length d]?=(pieces L)[oH L.length d]? /\(dC L (pieces L) [a,b,c])[oH L.length d]?=(pieces L)[oT L.length d]? :=fun d hd=>by
  obtain⟨k1,k2⟩:=s1 _ hd;unfold oT oH;split
  .exact⟨k1,k2⟩
  exact⟨k2,k1⟩
 have sym:∀ {e e':Nat},rW L e e'->rW L e' e:=fun h=>⟨h.1.symm,h.2.2.1.symm,h.2.1.symm,h.2.2.2.symm⟩;obtain⟨j1,j2⟩:=mB.1 dj;have jab:=j1 b af;have jac:=j1 c af;have jbc:=(mB.1 j2).1 c af;have step:∀d d',d<2*L.length->d'<2*L.length->aQ L d=d'->d/2∈[a,b,c]->d'/2∈[a,b,c]->rW L (d/2) (d'/2)->aQ X (kM L.length f d)=kM L.length f d':=by
  intro d d' hd yg e m1 m2 hj;subst e;obtain⟨q1,q2⟩:=kk _ m1;obtain⟨l,hl⟩:=aN (yD g hd);obtain⟨m,hm⟩:=aN (Ih g yg);have hlc:l.aD=true:=by
   have:(bJ L (oH L.length d)).kind=2:=by
    unfold oH;split
    .exact q2
    exact q1
   rw[iL hl] at this;unfold Let.aD;rw[this];rfl
  obtain⟨_,k2,_,_⟩:=Dl g hd hl hlc;obtain⟨_,mc,mi⟩:=BK g.ok hl hlc (u:=oT L.length (aQ L d)) hm k2.symm;refine S.aiv g hP hd hl hlc (e:=eW L (oH L.length d)) (e':=eW L (oT L.length (aQ L d))) ?_ ?_ mc mi ?_
  .rw[(ends d m1).1,jm hl]
  .rw[(ends _ m2).2,jm hm]
  exact(Qr hj).2.1
 have NM:∀d,kM L.length f d<2*X.length:=fun d=>by rw[hX];exact Wl hf
 have hN:∀d,kM L.length f d<nD X:=fun d=>by have:=NM d;unfold nD;omega
 have w0:∀d,u4 F X (kM L.length f d)=0:=fun d=>aG (NM d);have fin:∀es:a_,d1/2∈[a,b,c]->d2/2∈[a,b,c]->d3/2∈[a,b,c]->rW L (d1/2) (d2/2)->rW L (d2/2) (d3/2)->rW L (d1/2) (d3/2)->vM F X 0 [sF L.length f (d1/2),sF L.length f (d2/2),sF L.length f (d3/2)]=true:=by
  intro es m1 m2 m3 j12 j23 j13;have ne:∀d d':Nat,d<2*L.length->d'<2*L.length->d/2≠d'/2->kM L.length f d/2≠kM L.length f d'/2:=fun d d' h1 h2 h3 e=>by rw[GI,GI] at e;exact h3 (Bm hf aa aa e)
  have GX:=ne d1 d2 l1 l2 j12.1;have e23:=ne d2 d3 l2 l3 j23.1;have e13:=ne d1 d3 l1 l3 j13.1;rw[<- GI L.length f d1,<- GI L.length f d2,<- GI L.length f d3];have t1:=step d1 d2 l1 l2 n1 m1 m2 j12;have t2:=step d2 d3 l2 l3 n2 m2 m3 j23;have t3:=step d3 d1 l3 l1 n3 m3 m1 (sym j13);have x1:=NM d1;have x2:=NM d2;have x3:=NM d3;have y1:=w0 d1;have y2:=w0 d2;have y3:=w0 d3;have z1:=hN d1;have z2:=hN d2;have z3:=hN d3;generalize kM L.length f d1=p at*;generalize kM L.length f d2=q at*;generalize kM L.length f d3=r at*;have Oa:([p,q,r].filter fun x=>decide (x<2*X.length))=[p,q,r]:=List.filter_eq_self.2 fun x hx=>by simp only[ch,eL,or_false] at hx;rw[l9];rcases hx with rfl|rfl|rfl<;>assumption
  refine agy S.g aa aa aa z1 z2 z3 t1 t2 t3 (by rw[Oa];rfl) (by rw[y1,y2,y3]) fun e he=>?_;rw[Oa];simp only[ch,eL,or_false] at he |-;omega
 rcases aoD with ⟨rfl,rfl,rfl⟩|⟨rfl,rfl,rfl⟩
 .exact fin [] af af af jab jbc jac
 have:=fin [] af af af jac (sym jbc) jab;rw[Lb (List.Perm.cons _ (List.Perm.swap _ _ []))] at this;exact this
end
section
variable {F:Nat} {L X:ai} {P:c_} {f:Nat}
def Sh.bJ(S:Sh F P X f)(hP:P.length=L.length){v u:Nat}(hv:v<L.length)(hu:u<L.length)(h:P[v]?=(pieces L)[u]?):Go.Abs.bJ X (sF L.length f v)=Go.Abs.bJ L u:=by obtain⟨l,hl⟩:=aN hu;rw[jm hl] at h;have:=S.at_ v _ h;rw[hP] at this;rw[iL this,iL hl]
def au3(g:cE F L){a b c:Nat}(dU:a<b)(wJ:b<c)(hc:c<L.length){P:c_}(h:mR F L a b c=some P)(vX:cX (F:Int) (dT P)=0):∃a' b' c' Q,a'<b'/\b'<c'/\c'<(dT P).length/\mR F (dT P) a' b' c'=some Q/\lI (dT Q) L:=by
 have cP:=Jn g aa aa hc h;unfold mR at h;split at h
 case isFalse=>cases h
 rename_i ht;cases h;have ha:a<L.length:=aa;have hb:b<L.length:=aa;have ht:vR F L [a,b,c] a=true:=ht;obtain⟨f,S⟩:=Xd cP vX;have bd:=bk L;have hP:(dC L (pieces L) [a,b,c]).length=L.length:=by rw[qy,bd]
 obtain⟨dj,kk,_⟩:=ais g ha hb hc ht;have gG:∀e∈[a,b,c],e<L.length:=fun e he=>by simp only[ch,eL,or_false] at he;rcases he with rfl|rfl|rfl<;>assumption
 have adS:=au2 g ha hb hc ht S;have ss:=auI (Z:=pieces L) bd gG dj fun e he=>Bg g (gG e he);obtain⟨s1,_⟩:=Pq (Z:=pieces L) bd gG dj fun e he=>Bg g (gG e he);have X2:∀p∈dC L (pieces L) [a,b,c],p.l.aF=false->p.d=false:=fun p hp h=>agM (aie bd gG hp) h;generalize dT (dC L (pieces L) [a,b,c])=X at S vX adS |-;generalize dC L (pieces L) [a,b,c]=P at*;have hf:=S.hf;have hX:=S.len;rw[hP] at hf hX;have FK:∀e∈[a,b,c],nx L e<L.length:=fun e _=>dk _ aa;have q1:∀e∈[a,b,c],bJ X (sF L.length f e)=bJ L (nx L e)/\bJ X (nx X (sF L.length f e))=bJ L e:=fun e he=>by obtain⟨k1,k2⟩:=s1 e he;rw[S.nx hP (gG e he)];exact⟨S.bJ hP (gG e he) (FK e he) k1,S.bJ hP (FK e he) (gG e he) k2⟩
 have ine:∀e∈[a,b,c],sF L.length f e<X.length:=fun e _=>by rw[hX];exact zY hf
 have Hl:∀e∈[a,b,c],∀o,iB X (sF L.length f e) o=iB L e o/\ru X (sF L.length f e)=ru L e:=fun e he o=>by
  obtain⟨k1,k2⟩:=q1 e he;unfold iB ru;have e1:∀x,(pA X x).l=bJ X x:=fun _=>rfl;have e2:∀x,(pA L x).l=bJ L x:=fun _=>rfl;rw[e1,e1,e2,e2,k1,k2];constructor
  .cases ((bJ L e).kind==2)<;>cases ((bJ L (nx L e)).kind==2)<;>cases ((bJ L e).over==o)<;>cases ((bJ L (nx L e)).over==o)<;>rfl
  exact Bool.and_comm _ _
 have DZ:vR F X ([a,b,c].map (sF L.length f)) (sF L.length f a)=true:=by
  have r9:=ht;unfold vR at r9 |-;simp only[cJ,dh] at r9 |-;obtain⟨h1,h2,h3,h4,h5,h6⟩:=r9;have any_:∀o,[a,b,c].any (iB L · o)=true->([a,b,c].map (sF L.length f)).any (iB X · o)=true:=fun o h=>by obtain⟨e,hm,hb⟩:=u5.1 h;exact u5.2 ⟨_,cV.2 ⟨e,hm,rfl⟩,by rw[(Hl e hm o).1];exact hb⟩
  have na:=S.nx hP ha;have nb:=S.nx hP hb;have nc:=S.nx hP hc;refine⟨?_,?_,?_,any_ _ h4,any_ _ h5,?_⟩
  .rw[gj] at h1 |-;intro x hx;obtain⟨e,hm,rfl⟩:=cV.1 hx;rw[(Hl e hm true).2];exact h1 e hm
  .let q:Int->Int:=fun z=>((sF L.length f z.toNat:Nat):Int)
   have e1:my X ([a,b,c].map (sF L.length f))=(my L [a,b,c]).map q:=by show [((sF L.length f a:Nat):Int),(nx X (sF L.length f a):Int),((sF L.length f b:Nat):Int),(nx X (sF L.length f b):Int),((sF L.length f c:Nat):Int),(nx X (sF L.length f c):Int)]=_;rw[na,nb,nc];rfl
   rw[e1,WU,h2];intro x hx y hy jc;have key:∀x∈my L [a,b,c],∃n:Nat,n<L.length/\x=(n:Int):=fun x hx=>by
    unfold my at hx;obtain⟨e,hm,hx⟩:=CR.1 hx;simp only[ch,eL,or_false] at hx;rcases hx with rfl|rfl
    .exact⟨e,gG e hm,rfl⟩
    exact⟨_,FK e hm,rfl⟩
   obtain⟨u,hu,rfl⟩:=key x hx;obtain⟨v,hv,rfl⟩:=key y hy;have jc:((sF L.length f u:Nat):Int)=((sF L.length f v:Nat):Int):=jc;rw[Bm hf hu hv aa]
  .rw[<- h3];refine Qq fun x=>?_;unfold re;simp only[CR,cV,ch,eL,or_false];have e1:∀x,(pA X x).l=bJ X x:=fun _=>rfl;have e2:∀x,(pA L x).l=bJ L x:=fun _=>rfl;simp only[e1,e2];have hm:∀e,(e=a\/e=b\/e=c)->e∈[a,b,c]:=fun e h=>by simpa using h
   constructor
   .rintro ⟨_,⟨e,he,rfl⟩,hx⟩
    obtain⟨k1,k2⟩:=q1 e (hm e he);rw[k1,k2] at hx;exact⟨e,he,hx.symm⟩
   rintro ⟨e,he,hx⟩
   obtain⟨k1,k2⟩:=q1 e (hm e he);refine⟨_,⟨e,he,rfl⟩,?_⟩;rw[k1,k2];exact hx.symm
  rw[BC (e0:=sF L.length f a) rfl (ine a af)];exact adS
 have Hr:∀e∈[a,b,c].map (sF L.length f),e<X.length:=fun e he=>by obtain⟨x,hx,rfl⟩:=cV.1 he;exact ine x hx
 have ne:∀x y,x<L.length->y<L.length->x≠y->sF L.length f x≠sF L.length f y:=fun x y hx hy h e=>h (Bm hf hx hy e);obtain⟨a',b',c',h1,h2,hp⟩:=ah3 (ne a b ha hb aa) (ne a c ha hc aa) (ne b c hb hc aa);have hp:([a,b,c].map (sF L.length f)).Perm [a',b',c']:=hp;have r9:=aim Hr hp rfl rfl DZ;have iz:c'<X.length:=Hr c' (hp.mem_iff.2 af);have hY:mR F X a' b' c'=some (dC X (pieces X) [a',b',c']):=aG r9;refine⟨a',b',c',_,h1,h2,iz,hY,?_⟩;have cY:=Jn S.g aa aa iz hY;have Jx:([a,b,c].map (sF L.length f)).Pairwise (rW X):=ZR rfl (by unfold vR at DZ;simp only[cJ,dh] at DZ;exact DZ.2.1)
 have AU:=bk X;have yt:=Vp hp (X:=pieces X) AU Hr Jx;rw[<- yt] at cY |-;refine S.back g hP cY (by rw[qy,AU,hX]) fun v hv=>?_;rw[S.sw hP (Y:=pieces X) (Z:=P) (by rw[AU,hX]) hP gG (fun v hv=>S.Cx hP X2 hv) v hv,ss]
end
end
end Go.Abs
