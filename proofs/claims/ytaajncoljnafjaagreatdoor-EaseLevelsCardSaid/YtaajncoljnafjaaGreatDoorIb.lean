/- A part. -/
import Derived.Test.YtaajncoljnafjaaGreatDoorIa
import Derived.Test.YtaajncoljnafjaaGreatDoorRf
set_option linter.all false
set_option maxRecDepth 100000
set_option maxHeartbeats 16000000
namespace Go.Abs
section
variable{F f:Nat}{m:aS}
def Gv(a:Nat)(b:UInt8):Nat:=10*a+(b.toNat-48)
def uI(b:UInt8):Prop:=48<=b.toNat/\b.toNat<=57
def LW{n:Nat}(h:n<256):(UInt8.ofNat n).toNat=n:=by rw[UInt8.toNat_ofNat'];exact fT h
def anL:∀(k u:Nat) (acc:p_),u<10 ^ (k+1)->∃ds,sV (k+1) u acc=ds++acc/\ds≠[]/\(∀b∈ds,uI b)/\ds.foldl Gv 0=u:=by
 intro k
 induction k with
 |zero=>
  intro u acc h;have hu:u<10:=by simpa using h
  refine⟨[UInt8.ofNat (48+u)],?_,af,fun b hb=>?_,?_⟩
  .unfold sV;have hb:Nat.blt u 10=true:=T5 hu;rw[hb];rfl
  .rw[lI.1 hb];unfold uI;rw[LW aa];omega
  show Gv 0 (UInt8.ofNat (48+u))=u;unfold Gv;rw[LW aa];omega
 |succ k ih=>
  intro u acc h;by_cases hu:u<10
  .refine⟨[UInt8.ofNat (48+u)],?_,af,fun b hb=>?_,?_⟩
   .unfold sV;have hb:Nat.blt u 10=true:=T5 hu;rw[hb];rfl
   .rw[lI.1 hb];unfold uI;rw[LW aa];omega
   show Gv 0 (UInt8.ofNat (48+u))=u;unfold Gv;rw[LW aa];omega
  have hq:u/10<10 ^ (k+1):=by have:10 ^ (k+1+1)=10 ^ (k+1)*10:=Nat.pow_succ ..;omega
  have hr:=de u (show 0<10 by decide);obtain⟨ds,h1,h2,h3,h4⟩:=ih (u/10) (UInt8.ofNat (48+u%10)::acc) hq;refine⟨ds++[UInt8.ofNat (48+u%10)],?_,af,fun b hb=>?_,?_⟩
  .have hb:Nat.blt u 10=false:=by
    cases e:Nat.blt u 10 with
    |false=>rfl
    |true=>exact absurd (iH e) hu
   have e:sV (k+1+1) u acc=sV (k+1) (u/10) (UInt8.ofNat (48+u%10)::acc):=by rw[sV,hb];rfl
   rw[e,h1];simp
  .rcases eO.1 hb with hb|hb
   .exact h3 b hb
   rw[lI.1 hb];unfold uI;rw[LW aa];omega
  rw[Jd,h4];show Gv (u/10) (UInt8.ofNat (48+u%10))=u;unfold Gv;rw[LW aa];omega
def nb (n:Nat):p_:=sV 20 n []
def v8{n:Nat}(h:n<=1000000):(∀b∈nb n,uI b)/\(nb n).foldl Gv 0=n:=by
 have hp:n<10 ^ (19+1):=Nat.lt_of_le_of_lt h ae;obtain⟨ds,h1,_,h3,h4⟩:=anL 19 n [] hp;have e:nb n=ds:=by unfold nb;rw[h1,jG]
 rw[e];exact⟨h3,h4⟩
def Ys(n:Nat):(lB (n:Int)).data.toList=nb n:=rfl
def QJ:∀ {x y:p_}{c d:UInt8}{r q:p_},(∀b∈x,uI b)->(∀b∈y,uI b)-> ¬uI c-> ¬uI d->x++c::r=y++d::q->x=y/\c=d/\r=q:=by
 intro x
 induction x with
 |nil=>
  intro y c d r q _ hy hc _ h;cases y with
  |nil=>cases h;exact⟨rfl,rfl,rfl⟩
  |cons b y=>exfalso;rw[gn,nJ]at h;exact hc ((I0 h).1▸hy b af)
 |cons a x ih=>
  intro y c d r q hx hy hc hd h;cases y with
  |nil=>exfalso;rw[gn,nJ]at h;exact hd ((I0 h).1▸hx a af)
  |cons b y=>rw[nJ,nJ]at h;obtain⟨e,h⟩:=I0 h;obtain⟨h1,h2,h3⟩:=ih (fun b hb=>hx b (by simp[hb])) (fun b hb=>hy b (by simp[hb])) hc hd h;exact⟨by rw[e,h1],h2,h3⟩
def Hq(l:Let):Prop:= ∃a b c:Nat,a<=1000000/\b<=1000000/\c<=1000000/\((l.kind=1/\l.gate=a/\l.aw=b/\l.id=0/\l.sign=0/\l.over=false)\/(l.kind=2/\l.gate=0/\l.aw=0/\l.id=c/\(l.sign=1\/l.sign= -1)))
def ao9{L:ai}(g:ch F L):∀l∈L,Hq l:=by
 intro l hl;have hc:=g.len;have hF:=g.fing;have hb:=g.bad l hl;rcases wM hb with hp|hx
 .obtain⟨g0,g1,r0,r1⟩:=g.ok.ax.fi l hl hp;have:=sR (mE l.gate.toNat) L;obtain⟨⟨⟨_,hid⟩,hs⟩,ho⟩:=(sB hp).1 hb;simp only[cg]at r1;refine⟨l.gate.toNat,l.aw.toNat,0,aa,aa,aa,.inl ⟨cZ.1 hp,aa,aa,hid,hs,ho⟩⟩
 obtain⟨i1,i2⟩:=g.ids.1 l hl hx;have:=sR Let.aB L;obtain⟨⟨h1,h2⟩,h3⟩:=(O4 hx).1 hb;refine⟨0,0,l.id.toNat,aa,aa,aa,.inr ⟨cZ.1 hx,h1,h2,aa,?_⟩⟩;by_cases e:l.sign=1
 .exact .inl e
 by_cases e2:l.sign= -1
 .exact .inr e2
 simp[e,e2]at h3
def wl (l:Let):p_:=(tH l).data.toList
def Jz(a b:ByteArray):(a++b).data.toList=a.data.toList++b.data.toList:=by rw[ByteArray.data_append,PL]
def PG{l:Let}{a b:Nat}(h1:l.kind=1)(h2:l.gate=a)(h3:l.aw=b):wl l=nb a++46::nb b:=by unfold wl tH;rw[h1,h2,h3];show(lB (a:Int)++ZG++lB (b:Int)).data.toList=_;rw[Jz,Jz,Ys,Ys];show nb a++[46]++nb b=_;simp
def PE{l:Let}{c:Nat}(h1:l.kind=2)(h2:l.id=c)(h3:l.sign=1\/l.sign= -1):wl l=nb c++(if l.over then 111 else 117)::(if l.sign=1 then [43]else [45]):=by unfold wl tH;rw[h1,h2];show((lB (c:Int)++(if l.over then sO else sU))++(if l.sign==1 then sPl else if l.sign== -1 then sMi else sQu)).data.toList=_;rw[Jz,Jz,Ys];rcases h3 with h|h<;>rw[h]<;>cases l.over<;>simp[sO,sU,sPl,sMi]
def nd:¬uI 46/\ ¬uI 111/\ ¬uI 117:=by unfold uI;decide
def axL{x y:Let}(hx:Hq x)(hy:Hq y)(h:wl x=wl y):x=y:=by
 obtain⟨a,b,c,ha,hb,hc,hx⟩:=hx;obtain⟨a',b',c',NI,wX,iv,hy⟩:=hy;obtain⟨n1,n2,n3⟩:=nd;have ext:∀a b:Let,a.kind=b.kind->a.gate=b.gate->a.aw=b.aw->a.id=b.id->a.sign=b.sign->a.over=b.over->a=b:=fun a b=>by cases a;cases b;simp only[Let.mk.injEq];intros;simp_all
 have no:∀o:Bool,¬uI (if o then 111 else 117):=fun o=>by cases o<;>assumption
 have ne:∀o:Bool,(46:UInt8)≠(if o then 111 else 117):=fun o=>by cases o<;>decide
 rcases hx with⟨x1,x2,x3,x4,x5,x6⟩|⟨x1,x2,x3,x4,x5⟩<;>rcases hy with⟨y1,y2,y3,y4,y5,y6⟩|⟨y1,y2,y3,y4,y5⟩
 .rw[PG x1 x2 x3,PG y1 y2 y3]at h;obtain⟨e1,_,e2⟩:=QJ (v8 ha).1 (v8 NI).1 n1 n1 h;have e3:a=a':=by rw[<- (v8 ha).2,<- (v8 NI).2,e1]
  have e4:b=b':=by rw[<- (v8 hb).2,<- (v8 wX).2,e2]
  exact ext _ _ (by rw[x1,y1]) (by rw[x2,y2,e3]) (by rw[x3,y3,e4]) (by rw[x4,y4]) (by rw[x5,y5]) (by rw[x6,y6])
 .rw[PG x1 x2 x3,PE y1 y4 y5]at h;exact absurd (QJ (v8 ha).1 (v8 iv).1 n1 (no _) h).2.1 (ne _)
 .rw[PE x1 x4 x5,PG y1 y2 y3]at h;exact absurd (QJ (v8 hc).1 (v8 NI).1 (no _) n1 h).2.1.symm (ne _)
 rw[PE x1 x4 x5,PE y1 y4 y5]at h;obtain⟨e1,e2,e3⟩:=QJ (v8 hc).1 (v8 iv).1 (no _) (no _) h;have e4:c=c':=by rw[<- (v8 hc).2,<- (v8 iv).2,e1]
 refine ext _ _ (by rw[x1,y1]) (by rw[x2,y2]) (by rw[x3,y3]) (by rw[x4,y4,e4]) ?_ ?_
 .rcases x5 with s|s<;>rcases y5 with u|u<;>rw[s,u]at e3 |- <;>revert e3<;>decide
 revert e2;cases x.over<;>cases y.over<;>decide
def ake{x:Let}(hx:Hq x):∀b∈wl x,b≠32:=by
 obtain⟨a,b,c,ha,hb,hc,hx⟩:=hx;have asY:¬uI 32:=by unfold uI;decide
 have dg:∀z,z<=1000000->∀q∈nb z,q≠32:=fun z hz q hq e=>asY (e▸(v8 hz).1 q hq);rcases hx with⟨x1,x2,x3,_⟩|⟨x1,_,_,x4,x5⟩
 .rw[PG x1 x2 x3];intro q hq;rcases eO.1 hq with h|h
  .exact dg a ha q h
  rcases bJ.1 h with rfl|h
  .decide
  exact dg b hb q h
 rw[PE x1 x4 x5];intro q hq;rcases eO.1 hq with h|h
 .exact dg c hc q h
 rcases bJ.1 h with rfl|h
 .cases x.over<;>decide
 split at h<;>(rw[lI.1 h];decide)
def awu:∀ {x y r q:p_},(∀b∈x,b≠32)->(∀b∈y,b≠32)->(r=[]\/ ∃t,r=32::t)->(q=[]\/ ∃t,q=32::t)->x++r=y++q->x=y/\r=q:=by
 intro x
 induction x with
 |nil=>
  intro y r q _ hy hr hq h;cases y with
  |nil=>exact⟨rfl,h⟩
  |cons b y=>
   exfalso;rw[gn,nJ]at h;rcases hr with rfl|⟨t,rfl⟩
   .cases h
   exact hy b af (I0 h).1.symm
 |cons a x ih=>
  intro y r q hx hy hr hq h;cases y with
  |nil=>
   exfalso;rw[gn,nJ]at h;rcases hq with rfl|⟨t,rfl⟩
   .cases h
   exact hx a af (I0 h).1
  |cons b y=>rw[nJ,nJ]at h;obtain⟨e,h⟩:=I0 h;obtain⟨h1,h2⟩:=ih (fun b hb=>hx b (by simp[hb])) (fun b hb=>hy b (by simp[hb])) hr hq h;exact⟨by rw[e,h1],h2⟩
def axN:∀ {A B:ai},(∀l∈A,Hq l)->(∀l∈B,Hq l)->(A.flatMap fun l=>32::wl l)=(B.flatMap fun l=>32::wl l)->A=B:=by
 have tl:∀X:ai,(X.flatMap fun l=>32::wl l)=[]\/ ∃t,(X.flatMap fun l=>32::wl l)=32::t:=fun X=>by
  cases X with
  |nil=>exact .inl rfl
  |cons x X=>exact .inr ⟨_,by rw[Me,nJ]⟩
 intro A
 induction A with
 |nil=>
  intro B _ _ h;cases B with
  |nil=>rfl
  |cons b B=>rw[Me,nJ]at h;cases h
 |cons a A ih=>
  intro B hA hB h;cases B with
  |nil=>rw[Me,nJ]at h;cases h
  |cons b B=>rw[Me,Me,nJ,nJ]at h;obtain⟨h1,h2⟩:=awu (ake (hA a af)) (ake (hB b af)) (tl A) (tl B) (I0 h).2;rw[axL (hA a af) (hB b af) h1,ih (fun l h=>hA l (by simp[h])) (fun l h=>hB l (by simp[h])) h2]
def aiq(F:Int)(L:ai):(oX F L).data.toList=(lB F++sCo).data.toList++L.flatMap fun l=>32::wl l:=by
 have key:∀(L:ai) (s:ByteArray),(L.foldl (fun s l=>s++(EH++tH l)) s).data.toList=s.data.toList++L.flatMap fun l=>32::wl l:=by
  intro L
  induction L with
  |nil=>intro s;simp
  |cons l L ih=>intro s;rw[BD,ih,Jz,Jz,Me];show s.data.toList++([32]++wl l)++_=_;simp
 exact key L _
def auu{A B:ai}(hA:cG (F:Int) A=0)(hB:cG (F:Int) B=0)(h:oX (F:Int) A=oX (F:Int) B):A=B:=by
 have gl:∀X:ai,cG (F:Int) X=0->∀l∈X,Hq l:=fun X hX l hl=>by obtain⟨G,_,g⟩:=qG hX (akz hl);exact ao9 g l hl
 have h2:(oX (F:Int) A).data.toList=(oX (F:Int) B).data.toList:=by rw[h]
 rw[aiq,aiq]at h2;exact axN (gl A hA) (gl B hB) (List.append_cancel_left h2)
def ahV:∀ {a b c:d_},a.length=b.length->b.length=c.length->ik (a.zip b)<0->ik (b.zip c)<0->ik (a.zip c)<0:=by
 intro a
 induction a with
 |nil=>intro b c _ _ h;exact absurd (show(0:Int)<0 from h) ae
 |cons x a ih=>
  intro b c h1 h2 h3 h4;cases b with
  |nil=>cases h1
  |cons y b=>
   cases c with
   |nil=>cases h2
   |cons z c=>
    simp only[List.zip_cons_cons,ik]at h3 h4 |-;by_cases e1:x=y
    .subst e1;rw[aD rfl]at h3;by_cases e2:x=z
     .subst e2;rw[aD rfl]at h4 |-;exact ih (by simpa using h1) (by simpa using h2) h3 h4
     rw[au e2]at h4 |-;exact h4
    rw[au e1]at h3;by_cases e2:y=z
    .subst e2;rw[au e1];exact h3
    rw[au e2]at h4;have k1:x<y:=by
     by_cases h:x<y
     .exact h
     rw[au h]at h3;cases h3
    have k2:y<z:=by
     by_cases h:y<z
     .exact h
     rw[au h]at h4;cases h4
    rw[au aa,aD aa];decide
def kyL(l:Let):d_:=[l.kind,l.gate,l.aw,l.id,if l.over then 1 else 0,l.sign]
def xt(f:Int)(A:ai):d_:=[f,((aq Let.aB A:Nat):Int),(A.length:Int)]
def am5:∀ {A B C:ai},A.length=B.length->B.length=C.length->tP A B<0->tP B C<0->tP A C<0:=by
 intro A
 induction A with
 |nil=>
  intro B C _ _ h;have:tP ([]:ai) B=0:=by cases B<;>rfl
  rw[this]at h;omega
 |cons a A ih=>
  intro B C h1 h2 h3 h4;cases B with
  |nil=>cases h1
  |cons b B=>
   cases C with
   |nil=>cases h2
   |cons c C=>
    unfold tP at h3 h4 |-;by_cases e1:ik (tx a b)=0
    .have:=OX e1;subst this;rw[aD e1]at h3;by_cases e2:ik (tx a c)=0
     .rw[aD e2]at h4 |-;exact ih (by simpa using h1) (by simpa using h2) h3 h4
     rw[au e2]at h4 |-;exact h4
    rw[au e1]at h3;by_cases e2:ik (tx b c)=0
    .have:=OX e2;subst this;rw[au e1];exact h3
    rw[au e2]at h4;have k:ik (tx a c)<0:=ahV (a:=kyL a) (b:=kyL b) (c:=kyL c) rfl rfl h3 h4;rw[au aa];exact k
def am7{f:Int}{A B C:ai}(h:qC f A f B<0)(k:qC f B f C<0):qC f A f C<0:=by
 have hd:∀ {X Y:ai},ik (lU f X f Y)=0->xt f X=xt f Y:=fun h=>by have h:=IC h;unfold lU at h;simp only[bJ,eo,or_false,forall_eq_or_imp,forall_eq]at h;unfold xt;rw[h.2.1,h.2.2]
 have hz:∀X Y:ai,lU f X f Y=(xt f X).zip (xt f Y):=fun _ _=>rfl;have ln:∀ {X Y:ai},xt f X=xt f Y->X.length=Y.length:=fun h=>by unfold xt at h;simp only[yR,and_true]at h;omega
 unfold qC at h k |-;by_cases e1:ik (lU f A f B)=0<;>by_cases e2:ik (lU f B f C)=0
 .rw[aD e1]at h;rw[aD e2]at k;have a1:=hd e1;have a2:=hd e2;rw[hz,a1,a2,aD (Ln (by unfold xt;simp))];exact am5 (ln a1) (ln a2) h k
 .rw[au e2]at k;have a1:=hd e1;have:lU f A f C=lU f B f C:=by rw[hz,hz,a1]
  rw[this,au e2];exact k
 .rw[au e1]at h;have a2:=hd e2;have:lU f A f C=lU f A f B:=by rw[hz,hz,a2]
  rw[this,au e1];exact h
 rw[au e1]at h;rw[au e2]at k;have:=ahV (a:=xt f A) (b:=xt f B) (c:=xt f C) rfl rfl h k;rw[<-hz]at this;rw[au aa];exact this
def abS(f:Int)(A:ai):¬qC f A f A<0:=by rw[am8.2 ⟨rfl,rfl⟩];decide
def asm{l:x_}:∀k,∀j,j<k-> ¬qC F (l.getD j []) F (l.getD (nX F l k).toNat [])<0:=by
 intro k
 induction k with
 |zero=>intro j h;omega
 |succ k ih=>
  intro j hj;unfold nX;by_cases h0:nX F l k<0
  .rw[aD h0];have hk:k=0:=by rcases Sy F l k with⟨h,_⟩|⟨h,_⟩<;>omega
   subst hk;have:j=0:=aa;subst this;exact abS _ _
  rw[au h0];by_cases h1:qC F (l.getD k []) F (l.getD (nX F l k).toNat [])<0
  .rw[aD h1];by_cases e:j=k
   .subst e;exact abS _ _
   intro h2;exact ih j aa (am7 h2 h1)
  rw[au h1];by_cases e:j=k
  .subst e;exact h1
  exact ih j aa
def ass:∀ {A B:g_},mP A=mP B->A=B:=by
 intro A
 induction A with
 |nil=>intro B h;cases B with
  |nil=>rfl
  |cons b B=>cases h
 |cons a A ih=>
  intro B h;cases B with
  |nil=>cases h
  |cons b B=>
   have h:aS.ps a::mP A=aS.ps b::mP B:=h;obtain⟨h1,h2⟩:=I0 h;rw[ih h2];cases a;cases b;unfold aS.ps at h1;simp only[yR,PV.int.injEq,PV.bool.injEq,true_and,and_true]at h1;simp only[yR,aS.mk.injEq,and_true]
   simp_all
def apv{A B:g_}(h:(RV.tup [.one (aW fD 7 (mP A)),.one (.p (.int .i64 0))])=.tup [.one (aW fD 7 (mP B)),.one (.p (.int .i64 0))]):A=B:=by
 simp only[RV.tup.injEq,yR,RV.one.injEq,and_true]at h;apply ass;unfold aW at h;by_cases a:mP A=[]<;>by_cases b:mP B=[]
 .rw[a,b]
 .rw[aD a,au b]at h;cases h
 .rw[au a,aD b]at h;cases h
 rw[au a,au b]at h;simp only[RC.own.injEq]at h;exact h.2.2
section
variable {F:Nat} {L:ai}
def aca{pl a b:Nat}{kk:Int}{ns:g_}(dL:a<b)(h:kX F L pl [a,b] a=true)(hs:∀j,j<2->kA kk a (lN F L (2*a+j)).cA ns)(h8:kk≠8):Gh kk a b∈ns:=by
 have key:∀f:Fc,wQ f pl [a,b]=true->kA kk a f.cA ns->Gh kk a b∈ns:=fun f hf hs=>by
  unfold wQ at hf;simp only[cH,cZ,gk]at hf;obtain⟨h1,_,h3⟩:=hf;have ex:∀e∈[a,b],∃d∈f.cA,d/2=e:=fun e he=>by have h4:=h3 e he;unfold vA at h4;obtain⟨d,hd,pN⟩:=Ap.1 (show 0<f.cA.countP fun d=>d/2==e by omega);exact⟨d,hd,cZ.1 pN⟩
  exact hs.1 h8 b dL h1 (ex a af) (ex b af)
 unfold kX at h;rw[wE]at h;rcases h with h|h
 .exact key _ h (hs 0 ae)
 exact key _ h (hs 1 ae)
def ano{pl a b c:Nat}{ns:g_}(dL:a<b)(yj:b<c)(h:kX F L pl [a,b,c] a=true)(hs:∀j,j<2->kA 8 a (lN F L (2*a+j)).cA ns):mv3 8 a b c∈ns:=by
 have key:∀f:Fc,wQ f pl [a,b,c]=true->kA 8 a f.cA ns->mv3 8 a b c∈ns:=fun f hf hs=>by
  unfold wQ at hf;simp only[cH,cZ,gk]at hf;obtain⟨h1,_,h3⟩:=hf;have ex:∀e∈[a,b,c],∃d∈f.cA,d/2=e:=fun e he=>by have h4:=h3 e he;unfold vA at h4;obtain⟨d,hd,pN⟩:=Ap.1 (show 0<f.cA.countP fun d=>d/2==e by omega);exact⟨d,hd,cZ.1 pN⟩
  exact hs.2 rfl b c dL yj h1 (ex a af) (ex b af) (ex c af)
 unfold kX at h;rw[wE]at h;rcases h with h|h
 .exact key _ h (hs 0 ae)
 exact key _ h (hs 1 ae)
def amD(g:ch F L){X:ai}(hk:k5 m.k)(h:fg F L m=some X){ns:g_}(hc:CP F L m.k ns):m∈ns:=by
 obtain⟨k,a,b,c,l,o,sg⟩:=m;obtain⟨_,hA,P,hP,_⟩:=Ds g hk h;simp only at hA hP hc;have hk:k5 k:=hk;unfold k5 at hk;rcases hk with rfl|rfl|rfl|rfl|rfl
 .obtain⟨av,ha,rfl,rfl,rfl,rfl,rfl,rfl⟩:=(Js (.inl rfl)).1 hA;exact hc.1 (.inl rfl) av ha
 .obtain⟨av,bv,dL,hb,rfl,rfl,rfl,rfl,rfl,rfl⟩:=(Dv (.inl rfl)).1 hA;have hP:oI F L av bv=some P:=hP;obtain⟨p,v,q,w,c3,_⟩:=Qq g aa hb hP;exact aca dL c3.cor (hc.2 (.inl rfl) av aa) ae
 .obtain⟨av,ha,rfl,rfl,rfl,rfl,rfl,rfl⟩:=(Js (.inr rfl)).1 hA;exact hc.1 (.inr rfl) av ha
 .obtain⟨av,bv,dL,hb,rfl,rfl,rfl,rfl,rfl,rfl⟩:=(Dv (.inr rfl)).1 hA;have hP:vg F L av bv=some P:=hP;have c6:=SV.1 (show(vg F L av bv).isSome=true by rw[hP];rfl);exact aca dL c6.cor (hc.2 (.inr (.inl rfl)) av aa) ae
 obtain⟨av,bv,cv,dL,yj,cS,rfl,rfl,rfl,rfl,rfl,rfl⟩:=Jt.1 hA;have hP:nY F L av bv cv=some P:=hP;unfold nY at hP;split at hP
 case isFalse=>cases hP
 rename_i ht;unfold tgB at ht;simp only[cH]at ht;exact ano dL yj ht.2.2.2.2.2 (hc.2 (.inr (.inr rfl)) av aa)
def alv(g:ch F L){X:ai}(hk:k5 m.k)(h:fg F L m=some X):pI F L m.k m.a m.b m.c m.l m.o m.s=l7 F X:=by
 obtain⟨_,hA,P,hP,rfl⟩:=Ds g hk h;have hg:mK m.k=(0,0):=by unfold k5 at hk;rcases hk with h|h|h|h|h<;>rw[h]<;>rfl
 have k1:=g.len;have k2:=g.cr;unfold pI;rw[aD hA,hP];exact au (by rw[hg];dsimp only;omega)
def aaX(g:ch F L){want:d_}(jU:want.length<=10)(hw:∀k∈want,ui k){ms:g_}(hs:aK S 7 [ez F L,.one (.p (.sl (iP want)))] (.tup [.one (aW fD 7 (mP ms)),.one (.p (.int .i64 0))])){X:ai}(hm:m.k∈want)(h:fg F L m=some X):m∈ms:=by obtain⟨O2,⟨_,_,hc⟩,hs'⟩:=akT g want jU hw;rw[apv (aK.AX hs hs')];have hk:k5 m.k:=hw _ hm;obtain⟨ns,h1,h2⟩:=hc m.k hm (by unfold k5 at hk;omega) (by unfold k5 at hk;omega);exact h2 m (amD g hk h h1) ⟨X,alv g hk h⟩
def ahQ(h:cG (F:Int) L=0){want:d_}(hw:∀k∈want,ui k)(hm:qT F L want m):m.k∈want/\ch F L/\ ∃X,fg F L m=some X/\cG (F:Int) X=0:=by
 obtain⟨h1,⟨a,ha,_⟩,X,hX⟩:=hm;have aH:L≠[]:=fun e=>by rw[e]at ha;simp at ha
 obtain⟨G,e,g⟩:=qG h aH;have:F=G:=aa;subst this;have h2:=Ut aH hX;exact⟨h1,g,X,h2,(Ds g (hw _ h1) h2).1⟩
def yI(F:Nat)(L:ai):Prop:= ∃m X,(m.k=1\/m.k=4\/m.k=6)/\fg F L m=some X
def aiD(h:cG (F:Int) L=0)(hr:yI F L):ch F L:=by
 obtain⟨m,X,hk,hm⟩:=hr;by_cases aH:L=[]
 .subst aH;unfold fg at hm;rw[aD rfl]at hm;split at hm
  .rename_i hA;obtain⟨bv,k1,_⟩:=abe hA;omega
  cases hm
 obtain⟨G,e,g⟩:=qG h aH;have:F=G:=aa;subst this;exact g
def Y0(h:cG (F:Int) L=0):Ix F L↔ ¬yI F L:=by
 constructor
 .intro hn hr;have g:=aiD h hr;obtain⟨m,X,hk,hm⟩:=hr;have:=aaX g (want:=sE) ae Pm (ms:=[]) hn (show m.k∈sE by simp;omega) hm;cases this
 intro hr;obtain⟨ms,⟨_,ay⟩,hs⟩:=Qe h sE ae Pm;cases ms with
 |nil=>exact hs
 |cons m ms=>exfalso;obtain⟨h1,_,X,h2,_⟩:=ahQ h Pm (ay m af);exact hr ⟨m,X,by simpa using h1,h2⟩
def aiA(h:cG (F:Int) L=0):(tD F L).2=false↔ ¬yI F L:=by
 obtain⟨_,h2,h3⟩:=aiz h;constructor
 .intro hf;exact(Y0 h).1 (h3 hf)
 intro hr;cases hb:(tD F L).2 with
 |false=>rfl
 |true=>exact absurd ((Y0 h).2 hr) (h2 hb).2
end
def ahJ{A:ai}(g:ch F A):(bh A).length=A.length:=(adZ g.even g.qk.2.1).1
def aei{A B:ai}(gA:ch F A)(hB:cG (F:Int) B=0)(h:bh A=bh B):ch F B:=by
 have aH:B≠[]:=fun e=>by have h1:=ahJ gA;rw[h,e]at h1;have h2:=jl.2 gA.ne;have h3:(bh ([]:ai)).length=0:=rfl;omega
 obtain⟨G,e,g⟩:=qG hB aH;have:F=G:=aa;subst this;exact g
def avj{A B:ai}(hA:cG (F:Int) A=0)(hB:cG (F:Int) B=0)(h:bh A=bh B)(hr:yI F A):yI F B:=by have gA:=aiD hA hr;have gB:=aei gA hB h;exact(aio gB).1 (avi gA gB h ((aio gA).2 hr))
def W3{A B:ai}(hA:ch F A)(h:lM A B):bh A=bh B:=by unfold bh;rw[as1 hA.even h]
def YN{L:ai}(h:cG (F:Int) L=0)(hm:m∈iX F L):(m.k=3\/m.k=8)/\ch F L/\ ∃X,fg F L m=some X/\cG (F:Int) X=0:=by obtain⟨⟨_,ay⟩,_⟩:=YM h;obtain⟨h1,h2,h3⟩:=ahQ h YP (ay m hm);exact⟨by simpa using h1,h2,h3⟩
def YO{L:ai}(g:ch F L){X:ai}(hk:m.k=3\/m.k=8)(h:fg F L m=some X):m∈iX F L:=by obtain⟨_,hs⟩:=YM g.chk;exact aaX g ae YP hs (show m.k∈Bq by simp;omega) h
def Uy{a b:ByteArray}:(a==b)=true↔a=b:=by
 cases a with|mk x=>cases b with|mk y=>
 show(x==y)=true↔_;rw[cZ,ByteArray.mk.injEq]
section
variable {sb:Bool} {F limit:Nat}
def CK(F:Nat)(st:j_)(M:ai):Prop:=(st.map (aX.key F)).any (fun s=>oX (F:Int) (bh M)==s)=true
def CK.app{st:j_}{M:ai}(h:CK F st M)(t:j_):CK F (st++t) M:=by unfold CK at h |-;rw[kS,aal,h,Bool.true_or]
def CK.mem{st:j_}{M:ai}(h:CK F st M):∃y∈st,oX (F:Int) (bh M)=oX (F:Int) y.n:=by obtain⟨s,hs,e⟩:=wG.1 h;obtain⟨y,hy,rfl⟩:=cJ.1 hs;exact⟨y,hy,Uy.1 e⟩
def aa9(a:aX)(st:j_)(m:aS):∃t,(jm sb F limit a st m).2=st++t:=by
 unfold jm;split
 .exact⟨[],af⟩
 split
 .exact⟨[],af⟩
 exact⟨_,rfl⟩
def alj{a:aX}{st:j_}(h:(jm sb F limit a st m).1=0):CK F (jm sb F limit a st m).2 ((fg F a.c m).getD []):=by
 unfold jm at h |-;split
 .rename_i h1;exact h1
 rename_i h1;rw[au h1]at h;split
 .rename_i h2;rw[aD h2]at h;cases h
 unfold CK;rw[kS,aal,wE];refine .inr (wG.2 ⟨_,cJ.2 ⟨_,lI.2 rfl,rfl⟩,Uy.2 rfl⟩)
def Qi(a:aX):∀(ms:g_) (st:j_),∃t,(gO sb F limit a st ms).2=st++t:=by
 intro ms
 induction ms with
 |nil=>intro st;exact⟨[],by rw[jG];rfl⟩
 |cons m r ih=>
  intro st;rw[Dq];obtain⟨t,ht⟩:=aa9 (sb:=sb) (F:=F) (limit:=limit) a st m;split
  .obtain⟨u,hu⟩:=ih (jm sb F limit a st m).2;exact⟨t++u,by rw[hu,ht,wH]⟩
  exact⟨t,ht⟩
def alf{a:aX}:∀ {ms:g_}{st:j_},(gO sb F limit a st ms).1=0->∀m∈ms,CK F (gO sb F limit a st ms).2 ((fg F a.c m).getD []):=by
 intro ms
 induction ms with
 |nil=>intro st _ m hm;cases hm
 |cons m r ih=>
  intro st h x hx;rw[Dq]at h |-;by_cases h1:(jm sb F limit a st m).1=0
  .rw[aD h1]at h |-;rcases bJ.1 hx with rfl|hx
   .obtain⟨u,hu⟩:=Qi (sb:=sb) (F:=F) (limit:=limit) a r (jm sb F limit a st x).2;rw[hu];exact(alj h1).app u
   exact ih h x hx
  rw[au h1]at h;exact absurd h h1
def Qv:∀(f i:Nat) (st:j_),∃t,(jS sb F limit f i st).2=st++t:=by
 intro f
 induction f with
 |zero=>intro i st;exact⟨[],by rw[jG];rfl⟩
 |succ f ih=>
  intro i st;unfold jS;split
  .exact⟨[],by rw[jG]⟩
  rename_i a _;obtain⟨t,ht⟩:=Qi (sb:=sb) (F:=F) (limit:=limit) a (iX F a.c) st;split
  .obtain⟨u,hu⟩:=ih (i+1) (gO sb F limit a st (iX F a.c)).2;exact⟨t++u,by rw[hu,ht,wH]⟩
  exact⟨t,ht⟩
def amm:∀(f i:Nat) (st:j_),limit+1<=f+i->st.length<=limit->(jS sb F limit f i st).1=0->∀j x,i<=j->(jS sb F limit f i st).2[j]?=some x->∀m∈iX F x.c,CK F (jS sb F limit f i st).2 ((fg F x.c m).getD []):=by
 intro f
 induction f with
 |zero=>intro i st h1 h2 _ j x hj hx;have hx:st[j]?=some x:=hx;have:=(aT.1 hx).1;omega
 |succ f ih=>
  intro i st h1 h2 h3 j x hj hx m hm;cases hs:st[i]? with
  |none=>
   have e:jS sb F limit (f+1) i st=(0,st):=by rw[jS,hs]
   rw[e]at hx;have hx:st[j]?=some x:=hx;have:=(aT.1 hx).1;have:=List.getElem?_eq_none_iff.1 hs;omega
  |some a=>
   by_cases ha:(gO sb F limit a st (iX F a.c)).1=0
   .have e:jS sb F limit (f+1) i st=jS sb F limit f (i+1) (gO sb F limit a st (iX F a.c)).2:=by rw[jS,hs];exact aD ha
    rw[e]at h3 hx |-;by_cases e2:j=i
    .subst e2;obtain⟨t,ht⟩:=Qi (sb:=sb) (F:=F) (limit:=limit) a (iX F a.c) st;obtain⟨u,hu⟩:=Qv (sb:=sb) (F:=F) (limit:=limit) f (j+1) (gO sb F limit a st (iX F a.c)).2;have aA:=(aT.1 hs).1;have h5:(jS sb F limit f (j+1) (gO sb F limit a st (iX F a.c)).2).2[j]?=some a:=by
      rw[hu,ht,wH,xM aA];exact hs
     rw[h5]at hx;cases hx;rw[hu];exact(alf ha m hm).app u
    exact ih (i+1) _ aa (Ui h2) h3 j x aa hx m hm
   have e:jS sb F limit (f+1) i st=gO sb F limit a st (iX F a.c):=by rw[jS,hs];exact au ha
   rw[e]at h3;exact absurd h3 ha
def am1(iC:1<=limit){L0:ai}(dz:∀x∈(dU sb F limit L0).2,uA F L0 (dU sb F limit L0).2.length x)(h:(dU sb F limit L0).1=0):∀x∈(dU sb F limit L0).2,∀m∈iX F x.c,∃y∈(dU sb F limit L0).2,y.n=bh ((fg F x.c m).getD []):=by intro x hx m hm;obtain⟨j,hj⟩:=gV hx;have:=amm (sb:=sb) (F:=F) (limit:=limit) (limit+1) 0 [⟨L0,bh L0,[]⟩] aa iC h j x (bR _) hj m hm;obtain⟨y,hy,e⟩:=this.mem;obtain⟨_,_,X,hX,NG⟩:=YN (dz x hx).chk hm;refine⟨y,hy,?_⟩;have gy:=dz y hy;rw[hX]at e |-;have e:oX (F:Int) (bh X)=oX (F:Int) y.n:=e;rw[gy.qk]at e |-;exact(auu (wg NG) (wg gy.chk) e).symm
def awN:∀(L M:x_),L.Nodup->(∀x∈L,x∈M)->L.length<=M.length:=by
 intro L
 induction L with
 |nil=>intro M _ _;exact bR _
 |cons x L ih=>intro M hn hs;obtain⟨h1,h2⟩:=rh.1 hn;have hx:=hs x af;have:=ih (M.erase x) h2 fun y hy=>(T1 (fun e:y=x=>h1 (by rw[<-e];exact hy))).2 (hs y (by simp[hy]));rw[TZ hx]at this;have:=Mh hx;simp only[dI];omega
structure ShT (sb:Bool) (F limit:Nat) (T:x_):Prop where
 cl:∀(A X:ai) (m:aS),cG (F:Int) A=0->bh A∈T->m∈iX F A->fg F A m=some X->bh X∈T
 nr:sb=true->∀A:ai,cG (F:Int) A=0->bh A∈T-> ¬yI F A
 len:T.length<=limit
structure Dl (F:Nat) (T:x_) (st:j_):Prop where
 mem:∀y∈st,cG (F:Int) y.c=0/\y.n=bh y.c/\y.n∈T
 nd:(st.map aX.n).Nodup
def ali{T:x_}(hT:ShT sb F limit T){a:aX}{st:j_}(h:Dl F T st)(ha:a∈st)(hm:m∈iX F a.c):(jm sb F limit a st m).1=0/\Dl F T (jm sb F limit a st m).2:=by
 obtain⟨ca,na,ta⟩:=h.mem a ha;obtain⟨_,_,X,hX,NG⟩:=YN ca hm;have hXT:bh X∈T:=hT.cl a.c X m ca (na▸ta) hm hX;unfold jm;rw[hX];show(if _ then _ else if _ then _ else((if(sb&&(tD F X).2)=true then 2 else 0,st++[(⟨X,bh X,a.w++[m]⟩:aX)]):Nat×j_)).1=0/\Dl F T (if _ then _ else if _ then _ else((if(sb&&(tD F X).2)=true then 2 else 0,st++[(⟨X,bh X,a.w++[m]⟩:aX)]):Nat×j_)).2;by_cases hk:(st.map (aX.key F)).any (fun s=>oX (F:Int) (bh X)==s)=true
 .have e:(if(List.map (aX.key F) st).any (fun s=>oX (F:Int) (bh X)==s)=true then((0,st):Nat×j_)else if st.length=limit then(1,st)else(if(sb&&(tD F X).2)=true then 2 else 0,st++[(⟨X,bh X,a.w++[m]⟩:aX)]))=(0,st):=aD hk;exact⟨congrArg Prod.fst e,by
   have:=congrArg Prod.snd e;exact this▸h⟩
 have HT:bh X∉st.map aX.n:=fun jL=>by obtain⟨y,hy,e⟩:=cJ.1 jL;exact hk (wG.2 ⟨y.key F,cJ.2 ⟨y,hy,rfl⟩,by unfold aX.key;rw[e];exact Uy.2 rfl⟩)
 have gI:((st++[(⟨X,bh X,a.w++[m]⟩:aX)]).map aX.n).Nodup:=by rw[kS,GG];refine⟨h.nd,af,fun x hx y hy=>?_⟩;rw[lI.1 hy];exact fun e=>HT (by have e:x=bh X:=e;rw[<-e];exact hx)
 have nT:∀y∈st++[(⟨X,bh X,a.w++[m]⟩:aX)],cG (F:Int) y.c=0/\y.n=bh y.c/\y.n∈T:=fun y hy=>by
  rcases eO.1 hy with hy|hy
  .exact h.mem y hy
  rw[lI.1 hy];exact⟨NG,rfl,hXT⟩
 have hlen:=awN _ T gI fun x hx=>by obtain⟨y,hy,rfl⟩:=cJ.1 hx;exact(nT y hy).2.2
 have ti:=hT.len;rw[cE,fS]at hlen;have hlen:st.length+1<=T.length:=hlen;have pV:(sb&&(tD F X).2)=false:=by
  cases sb with
  |false=>rfl
  |true=>rw[(aiA NG).2 (hT.nr rfl X NG hXT)];rfl
 have e:(if(List.map (aX.key F) st).any (fun s=>oX (F:Int) (bh X)==s)=true then((0,st):Nat×j_)else if st.length=limit then(1,st)else(if(sb&&(tD F X).2)=true then 2 else 0,st++[(⟨X,bh X,a.w++[m]⟩:aX)]))=(0,st++[(⟨X,bh X,a.w++[m]⟩:aX)]):=by rw[au hk,au aa,pV];rfl
 exact⟨congrArg Prod.fst e,by
  have:=congrArg Prod.snd e;exact this▸⟨nT,gI⟩⟩
def ale{T:x_}(hT:ShT sb F limit T){a:aX}:∀ {ms:g_}{st:j_},Dl F T st->a∈st->(∀m∈ms,m∈iX F a.c)->(gO sb F limit a st ms).1=0/\Dl F T (gO sb F limit a st ms).2:=by
 intro ms
 induction ms with
 |nil=>intro st h _ _;exact⟨rfl,h⟩
 |cons m r ih=>intro st h ha hm;rw[Dq];obtain⟨h1,h2⟩:=ali hT h ha (hm m af);rw[aD h1];obtain⟨t,ht⟩:=aa9 (sb:=sb) (F:=F) (limit:=limit) a st m;exact ih h2 (by rw[ht];exact Dg _ ha) fun x hx=>hm x (by simp[hx])
def amk{T:x_}(hT:ShT sb F limit T):∀(f i:Nat) (st:j_),Dl F T st->(jS sb F limit f i st).1=0/\Dl F T (jS sb F limit f i st).2:=by
 intro f
 induction f with
 |zero=>intro i st h;exact⟨rfl,h⟩
 |succ f ih=>
  intro i st h;cases hs:st[i]? with
  |none=>
   have e:jS sb F limit (f+1) i st=(0,st):=by rw[jS,hs]
   rw[e];exact⟨rfl,h⟩
  |some a=>
   obtain⟨h1,h2⟩:=ale hT (a:=a) h (aV hs) fun m hm=>hm;have e:jS sb F limit (f+1) i st=jS sb F limit f (i+1) (gO sb F limit a st (iX F a.c)).2:=by rw[jS,hs];exact aD h1
   rw[e];exact ih _ _ h2
def auI{L:ai}(h:cG (F:Int) L=0)(hr:¬yI F L):sG F L=([],L):=by
 obtain⟨h1,_⟩:=ZA h;generalize sG F L=q at*;obtain⟨ms,X⟩:=q;have vU:rO F L ms=some X:=h1.rep;cases ms with
 |nil=>cases vU;rfl
 |cons m r=>
  exfalso;have vU:(match fg F L m with|none=>none|some K=>rO F K r)=some X:=vU;have hk:=h1.kind m af;cases ha:fg F L m with
  |none=>rw[ha]at vU;cases vU
  |some K=>exact hr ⟨m,K,by simpa using hk,ha⟩
def ami{st:j_}(h:st≠[]):∃b:Nat,nX F (st.map aX.n) st.length=(b:Int)/\st[b]?=some (zb F st):=by
 have aH:1<=st.length:=jl.2 h;unfold zb;rcases Sy F (st.map aX.n) st.length with⟨h0,_⟩|⟨h0,h1⟩
 .omega
 obtain⟨b,hb⟩:=tJ h0;rw[hb]at h1 |-;obtain⟨m,hm⟩:=aL (ls:=st) (k:=b) aa;exact⟨b,rfl,by rw[qu,hm];rfl⟩
end
abbrev sF(n f v:Nat):Nat:=(v+n-f)%n
def Ag{n v:Nat}(h:f<n):sF n f v<n:=de _ aa
def aiX{n v:Nat}(hf:f<n)(hv:v<n):sF n f ((f+v)%n)=v:=by unfold sF;rw[Br (a:=f+v) aa];split<;>(rw[Br aa];split<;>omega)
def Tx{n v:Nat}(hf:f<n)(hv:v<n):(f+sF n f v)%n=v:=by unfold sF;rw[PY,show f+(v+n-f)=v+n by omega,ow,fT hv]
def ZH{n v:Nat}(hf:f<n)(hv:v<n):sF n f ((v+1)%n)=(sF n f v+1)%n:=by
 unfold sF;rw[yY,Br (a:=v+1) aa];split
 .congr 1;omega
 rw[show v+n-f+1=(v+1-n+n-f)+n by omega,ow]
def By{n u v:Nat}(hf:f<n)(hu:u<n)(hv:v<n)(e:sF n f u=sF n f v):u=v:=by rw[<-Tx hf hu,<-Tx hf hv,e]
structure Sh (F:Nat) (P:c_) (X:ai) (f:Nat):Prop where
 g:ch F X
 len:X.length=P.length
 hf:f<P.length
 at_:∀v p,P[v]?=some p->X[sF P.length f v]?=some p.l
 dn:∀v p,P[v]?=some p->p.l.aE=true->dn X (sF P.length f v)=p.d
def aee{P:c_}(cP:Cert F P)(vX:cG (F:Int) (dO P)=0):∃f,Sh F P (dO P) f:=by
 obtain⟨f,hf,a1,al,_,a2⟩:=Qy cP;have aH:dO P≠[]:=fun e=>by rw[e]at al;simp at al;omega
 obtain⟨G,e1,g⟩:=qG vX aH;have:F=G:=aa;subst this;refine⟨f,g,al,hf,fun v p hp=>?_,fun v p hp fv=>?_⟩
 .have hv:=(aT.1 hp).1;rw[a1 _ (Ag hf),Tx hf hv,hp];rfl
 have hv:=(aT.1 hp).1;exact(a2 _ p (Ag hf) (by rw[Tx hf hv];exact hp) fv).symm
section
variable {F:Nat} {L X:ai} {P:c_} {f:Nat}
def Sh.back(S:Sh F P X f)(g:ch F L)(hP:P.length=L.length){Q:c_}(cQ:Cert F Q)(hQ:Q.length=L.length)(h:∀v,v<L.length->Q[sF L.length f v]?=(pieces L)[v]?):lM (dO Q) L:=by
 obtain⟨f1,vK,b1,bl,⟨q0,OC,qp0,qd0⟩,_⟩:=Qy cQ;have hf:=S.hf;rw[hP]at hf;rw[hQ]at vK b1 bl;have hn:0<L.length:=aa;have get:∀x,x<L.length->Q[x]?=(pieces L)[(f+x)%L.length]? :=fun x hx=>by rw[<-h _ (de _ hn),aiX hf hx]
 have hj:(f+f1)%L.length<L.length:=de _ hn;have e:dO Q=eI L ((f+f1)%L.length):=by
  apply xL;intro k;by_cases hk:k<L.length
  .rw[b1 k hk,get _ (de _ hn),LG hj hk,PY,<-EY,yY];obtain⟨l,hl⟩:=aL (ls:=L) (k:=(f+f1+k)%L.length) (de _ hn);rw[ju hl,hl];rfl
  rw[n9 aa,n9 (by rw[yJ];omega)]
 rw[e];refine Q8 aa g.even ?_;rw[get f1 vK]at OC;obtain⟨l,hl⟩:=aL hj;rw[ju hl]at OC;have hd:eN L ((f+f1)%L.length)=true:=by rw[<-pz OC]at qd0;exact qd0
 unfold eN at hd;rw[hl]at hd;have hd:(l.aE&&Go.Abs.dn L ((f+f1)%L.length))=true:=hd;rw[cH]at hd;have:=hd.2;unfold Go.Abs.dn at this;exact cZ.1 this
def kV(n f d:Nat):Nat:=if d%2=0 then 2*sF n f (d/2)+1 else 2*sF n f (d/2)
def GY(n f d:Nat):kV n f d/2=sF n f (d/2):=by unfold kV;split<;>omega
def abw{n d:Nat}(hf:f<n)(hd:d<2*n):kV n f d=dx n (sF n f (oH n d)) (!aY d):=by
 have hs:=Ag (v:=d/2) hf;unfold kV dx oH aY;rcases vt d with h|h
 .simp only[h,if_true,Av,Ao,dN,if_false];rw[ZH hf aa,v7 hs]
 simp only[h,show((1:Nat)==0)=false from rfl,GC,if_true,Mo,if_false]
def abx{n d:Nat}(hf:f<n)(hd:d<2*n):kV n f d=fV n (sF n f (oT n d)) (!aY d):=by
 have hs:=Ag (v:=d/2) hf;unfold kV fV oT aY;rcases vt d with h|h
 .simp only[h,if_true,Av,Ao,dN,if_false]
 simp only[h,show((1:Nat)==0)=false from rfl,GC,if_true,Mo,if_false];rw[ZH hf aa,v7 hs]
def UB{n d:Nat}(hf:f<n):kV n f d<2*n:=by have:=Ag (v:=d/2) hf;unfold kV;split<;>omega
def Sh.ajV(S:Sh F P X f)(g:ch F L)(hP:P.length=L.length){d:Nat}(hd:d<2*L.length){l m:Let}{e e':Bool}(hl:L[oH L.length d]?=some l)(hc:l.aB=true)(hT:P[oT L.length d]?=some ⟨l,e⟩)(hH:P[oH L.length (aO L d)]?=some ⟨m,e'⟩)(cm:m.aB=true)(hid:m.id=l.id)(aH:oT L.length d≠oH L.length (aO L d)):aO X (kV L.length f d)=kV L.length f (aO L d):=by have hf:=S.hf;have zy:=S.len;have a1:=S.at_ _ _ hT;have a2:=S.at_ _ _ hH;rw[hP]at hf zy a1 a2;obtain⟨k1,k2,k3,_⟩:=DH g hd hl hc;have h1:=Iz g hd;have h2:=yG g k1;rw[abx hf hd,abw hf k1];have ho:=Gr S.g a1 a2 hc cm hid.symm fun e2=>aH (By hf h1 h2 e2);have ht:=yN a1 hc (!aY d);rw[zy,ho]at ht;rw[ht];have e3:(l.over==(l.sign==1))=(aY d==aY (aO L d)):=k3;show dx _ _ ((!aY d)==(l.over==(l.sign==1)))=_;rw[e3];congr 1;cases aY d<;>cases aY (aO L d)<;>rfl
def ahT(g:ch F X){p q r:Nat}(pq:p≠q)(pr:p≠r)(qr:q≠r)(lp:p<nD X)(lq:q<nD X)(lr:r<nD X)(np:aO X p=q)(nq:aO X q=r)(nr:aO X r=p){es:a_}{pl:Nat}
  (h1:([p,q,r].filter fun x=>decide (x<2*X.length)).length=es.length) (h2:vn F X p+vn F X q+vn F X r=pl)
  (h3:∀e∈es,(2*e∈([p,q,r].filter fun x=>decide (x<2*X.length))/\2*e+1∉([p,q,r].filter fun x=>decide (x<2*X.length)))\/(2*e∉([p,q,r].filter fun x=>decide (x<2*X.length))/\2*e+1∈([p,q,r].filter fun x=>decide (x<2*X.length)))):wm F X pl es=true:=by
 have inj:=(maps g.ok).inj;obtain⟨w,hw,pS⟩:=aaa lp;have hqw:=yO (maps g.ok) hw pS;rw[np]at hqw;have hrw:=yO (maps g.ok) hw hqw;rw[nq]at hrw;obtain⟨gI,_,_⟩:=TJ g hw;have hp:w.Perm [p,q,r]:=(T3 gI (by simp[pq,pr,qr])).2 fun z=>by
  simp only[bJ,eo,or_false];constructor
  .intro hz;refine(TI g hw (Q:=fun t=>t=p\/t=q\/t=r) (fun t ht=>⟨?_,?_⟩) pS hz).1 (.inl rfl)
   .rintro (h|h|h)
    .exact .inr (.inr (inj _ _ ht lr (h.trans nr.symm)))
    .exact .inl (inj _ _ ht lp (h.trans np.symm))
    exact .inr (.inl (inj _ _ ht lq (h.trans nq.symm)))
   rintro(h|h|h)<;>rw[h]
   .exact .inr (.inl np)
   .exact .inr (.inr nq)
   exact .inl nr
  rintro(rfl|rfl|rfl)<;>assumption
 unfold wm;rw[wG];refine⟨mg F X w,cJ.2 ⟨w,hw,rfl⟩,?_⟩;unfold IB;simp only[cH,cZ,gk];rw[BR,ad4];have hf:=hp.filter fun x=>decide (x<2*X.length);refine⟨hf.length_eq.trans h1,?_,fun e he=>?_⟩
 .rw[(hp.map _).sum_nat,<-h2];simp only[ek,kU,Mj,List.sum_nil];omega
 rw[decide_eq_decide.2 hf.mem_iff,decide_eq_decide.2 hf.mem_iff];rcases h3 e he with⟨h4,h5⟩|⟨h4,h5⟩
 .rw[Dj h4,E6 h5];rfl
 rw[E6 h4,Dj h5];rfl
end
section
variable {F:Nat} {L X:ai} {P:c_} {f:Nat}
def Pv:∀ {es:a_}{Z:c_},Z.length=L.length->(∀e∈es,e<L.length)->es.Pairwise (rX L)->(∀e∈es,e≠nx L e)->(∀e∈es,(dG L Z es)[e]?=Z[nx L e]? /\(dG L Z es)[nx L e]?=Z[e]?)/\ ∀x,(∀e∈es,x≠e/\x≠nx L e)->(dG L Z es)[x]?=Z[x]? :=by
 intro es
 induction es with
 |nil=>intro Z _ _ _ _;exact⟨fun e he=>(nomatch he),fun x _=>rfl⟩
 |cons e es ih=>
  intro Z hZ he hd hn;obtain⟨d1,d2⟩:=mB.1 hd;obtain⟨i1,i2⟩:=ih (Z:=eG L Z e) (by rw[uu,hZ]) (fun x h=>he x (by simp[h])) d2 (fun x h=>hn x (by simp[h]));have dB:=he e af;have gt:∀x,(eG L Z e)[x]?=_:=fun x=>wA hZ dB x;have en:=hn e af;refine⟨fun x hx=>?_,fun x hx=>?_⟩
  .show(dG L (eG L Z e) es)[x]?=_/\(dG L (eG L Z e) es)[nx L x]?=_;rcases bJ.1 hx with rfl|hx
   .rw[i2 x fun y hy=>⟨(d1 y hy).1,(d1 y hy).2.1⟩,i2 (nx L x) fun y hy=>⟨(d1 y hy).2.2.1,(d1 y hy).2.2.2⟩,gt,gt,au en,aD rfl,aD rfl];exact⟨rfl,rfl⟩
   obtain⟨k1,k2⟩:=i1 x hx;obtain⟨q1,q2,q3,q4⟩:=d1 x hx;rw[k1,k2,gt,gt,au (Ne.symm q4),au (Ne.symm q2),au (Ne.symm q3),au (Ne.symm q1)];exact⟨rfl,rfl⟩
  show(dG L (eG L Z e) es)[x]?=_;rw[i2 x fun y hy=>hx y (by simp[hy]),gt,au (hx e af).2,au (hx e af).1]
def awR{es:a_}{Z:c_}(hZ:Z.length=L.length)(he:∀e∈es,e<L.length)(hd:es.Pairwise (rX L))(hn:∀e∈es,e≠nx L e):dG L (dG L Z es) es=Z:=by
 obtain⟨a1,a2⟩:=Pv hZ he hd hn;obtain⟨b1,b2⟩:=Pv (Z:=dG L Z es) (by rw[qt,hZ]) he hd hn;apply xL;intro x;rcases IY (∃e∈es,x=e\/x=nx L e)with⟨e,hm,h⟩|h
 .rcases h with rfl|rfl
  .rw[(b1 x hm).1,(a1 x hm).2]
  rw[(b1 e hm).2,(a1 e hm).1]
 have h2:∀e∈es,x≠e/\x≠nx L e:=fun e hm=>⟨fun k=>h ⟨e,hm,.inl k⟩,fun k=>h ⟨e,hm,.inr k⟩⟩;rw[b2 x h2,a2 x h2]
def Sh.nx(S:Sh F P X f)(hP:P.length=L.length){v:Nat}(hv:v<L.length):Go.Abs.nx X (sF L.length f v)=sF L.length f (Go.Abs.nx L v):=by have hf:=S.hf;rw[hP]at hf;show(_+1)%X.length=_;rw[S.len,hP,<-ZH hf hv]
def Sh.sw(S:Sh F P X f)(hP:P.length=L.length):∀ {es:a_}{Y Z:c_},Y.length=L.length->Z.length=L.length->(∀e∈es,e<L.length)->(∀v,v<L.length->Y[sF L.length f v]?=Z[v]?)->∀v,v<L.length->(dG X Y (es.map (sF L.length f)))[sF L.length f v]?=(dG L Z es)[v]? :=by
 have hf:=S.hf;have hX:=S.len;rw[hP]at hf hX;intro es
 induction es with
 |nil=>intro Y Z _ _ _ h;exact h
 |cons e es ih=>
  intro Y Z hY hZ he h;have dB:=he e af;have hn:Go.Abs.nx L e<L.length:=de _ aa;refine ih (Y:=eG X Y (sF L.length f e)) (Z:=eG L Z e) (by rw[uu,hY]) (by rw[uu,hZ]) (fun x hx=>he x (by simp[hx])) fun v hv=>?_;rw[wA (by rw[hX,hY]) (by rw[hX];exact Ag hf),wA hZ dB,S.nx hP dB];by_cases c1:v=Go.Abs.nx L e
  .subst c1;rw[aD rfl,aD rfl,h _ dB]
  rw[au c1,au fun k=>c1 (By hf hv hn k)];by_cases c2:v=e
  .subst c2;rw[aD rfl,aD rfl,h _ hn]
  rw[au c2,au fun k=>c2 (By hf hv dB k),h _ hv]
def Sh.CO(S:Sh F P X f)(hP:P.length=L.length)(hd:∀p∈P,p.l.aE=false->p.d=false){v:Nat}(hv:v<L.length):(pieces X)[sF L.length f v]?=P[v]? :=by
 obtain⟨p,hp⟩:=aL (ls:=P) (k:=v) aa;have h1:=S.at_ v p hp;have h2:=S.dn v p hp;rw[hP]at h1 h2;rw[ju h1,hp];have:eN X (sF L.length f v)=p.d:=by
  unfold eN;rw[h1];show(p.l.aE&&Go.Abs.dn X (sF L.length f v))=p.d;cases fv:p.l.aE with
  |true=>rw[h2 fv];rfl
  |false=>rw[hd p (aV hp) fv];rfl
 rw[this]
def ajS(g:ch F L){a b c:Nat}(ha:a<L.length)(hb:b<L.length)(hc:c<L.length)(h:wB F L [a,b,c] a=true):[a,b,c].Pairwise (rX L)/\(∀e∈[a,b,c],(bk L e).kind=2/\(bk L (nx L e)).kind=2)/\ ∃d1 d2 d3,d1<2*L.length/\d2<2*L.length/\d3<2*L.length/\aO L d1=d2/\aO L d2=d3/\aO L d3=d1/\((d1/2=a/\d2/2=b/\d3/2=c)\/(d1/2=a/\d2/2=c/\d3/2=b)):=by
 unfold wB at h;simp only[cH,cZ]at h;obtain⟨eX,h6,_,_,_,ym⟩:=h;have dj:=ZW (L:=L) (es:=[a,b,c]) rfl h6;have kk:∀e∈[a,b,c],(bk L e).kind=2/\(bk L (nx L e)).kind=2:=fun e he=>by have h1:=gk.1 eX e he;unfold ru at h1;rw[cH,cZ,cZ]at h1;exact h1
 refine⟨dj,kk,?_⟩;have ok:=g.ok;obtain⟨j1,j2⟩:=mB.1 dj;have jab:=j1 b af;have jac:=j1 c af;have jbc:=(mB.1 j2).1 c af;have hn:0<L.length:=aa;obtain⟨w,hw,_,hlen,hE⟩:=QE g ha ym;obtain⟨da,tR,qE,tS⟩:=hE a af;obtain⟨db,uH,rz,tU⟩:=hE b af;obtain⟨dc,Fs,zh,zi⟩:=hE c af;have hN:∀d,d<2*L.length->d<nD L:=fun d hd=>by unfold nD;omega
 have three:∀d,d∈w->d<2*L.length->d=da\/d=db\/d=dc:=fun d h1 h2=>by
  have inD:∀d,d∈w->d<2*L.length->d∈w.filter fun x=>decide (x<2*L.length):=fun d h1 h2=>uz.2 ⟨h1,by simpa using h2⟩;have q1:=inD da tR qE;have q2:=inD db uH rz;have q3:=inD dc Fs zh;have q4:=inD d h1 h2;generalize w.filter (fun x=>decide (x<2*L.length))=D at hlen q1 q2 q3 q4
  match D,hlen with
  |[x,y,z],_=>simp only[bJ,eo,or_false]at q1 q2 q3 q4;have:=jab.1;have:=jac.1;have:=jbc.1;omega
 have HF:∀d,d<2*L.length->d/2∈[a,b,c]->∃l,L[oH L.length d]?=some l/\l.aB=true:=fun d hd he=>by
  obtain⟨h1,h2⟩:=kk _ he;obtain⟨l,hl⟩:=aL (yG g hd);refine⟨l,hl,?_⟩;have h3:=iN hl;have:(bk L (oH L.length d)).kind=2:=by
   unfold oH;split
   .exact h2
   exact h1
  rw[h3]at this;unfold Let.aB;rw[this];rfl
 have step:∀d,d∈w->d<2*L.length->d/2∈[a,b,c]->aO L d=da\/aO L d=db\/aO L d=dc:=fun d hd hl he=>by obtain⟨l,h1,h2⟩:=HF d hl he;exact three _ (yO (maps ok) hw hd) (DH g hl h1 h2).1
 have nab:da≠db:=fun e=>jab.1 (by rw[<-tS,<-tU,e]);have nac:da≠dc:=fun e=>jac.1 (by rw[<-tS,<-zi,e]);have nbc:db≠dc:=fun e=>jbc.1 (by rw[<-tU,<-zi,e]);rcases ajQ g hw tR uH Fs nab nac nbc (hN _ qE) (hN _ rz) (hN _ zh) (step da tR qE (by rw[tS];simp)) (step db uH rz (by rw[tU];simp)) (step dc Fs zh (by rw[zi];simp))with⟨h1,h2,h3⟩|⟨h1,h2,h3⟩
 .exact⟨da,db,dc,qE,rz,zh,h1,h2,h3,.inl ⟨tS,tU,zi⟩⟩
 exact⟨da,dc,db,qE,zh,rz,h1,h2,h3,.inr ⟨tS,zi,tU⟩⟩
def aia{p:Pc}(h:p∈pieces L)(hp:p.l.aE=false):p.d=false:=by obtain⟨v,hv⟩:=gV h;have hl:=(aT.1 hv).1;rw[eY]at hl;obtain⟨l,hx⟩:=aL hl;rw[ju hx]at hv;cases hv;have hp:l.aE=false:=hp;show eN L v=false;unfold eN;rw[hx];show(l.aE&&dn L v)=false;rw[hp];rfl
def ajG{p:Pc}:∀ {es:a_}{Z:c_},Z.length=L.length->(∀e∈es,e<L.length)->p∈dG L Z es->p∈Z:=by
 intro es
 induction es with
 |nil=>intro Z _ _ h;exact h
 |cons e es ih=>
  intro Z hZ he h;have h:=ih (Z:=eG L Z e) (by rw[uu,hZ]) (fun x hx=>he x (by simp[hx])) h;obtain⟨v,hv⟩:=gV h;rw[wA hZ (he e af)]at hv;split at hv
  .exact aV hv
  split at hv<;>exact aV hv
def axa(g:ch F L){a b c:Nat}(ha:a<L.length)(hb:b<L.length)(hc:c<L.length)(h:wB F L [a,b,c] a=true)(S:Sh F (dG L (pieces L) [a,b,c]) X f):wm F X 0 [sF L.length f a,sF L.length f b,sF L.length f c]=true:=by
 obtain⟨dj,kk,d1,d2,d3,l1,l2,l3,n1,n2,n3,aqG⟩:=ajS g ha hb hc h;have bU:=eY L;have gb:∀e∈[a,b,c],e<L.length:=fun e he=>by simp only[bJ,eo,or_false]at he;rcases he with rfl|rfl|rfl<;>assumption
 have hP:(dG L (pieces L) [a,b,c]).length=L.length:=by rw[qt,bU]
 have hf:=S.hf;have hX:=S.len;rw[hP]at hf hX;obtain⟨s1,_⟩:=Pv bU gb dj fun e he=>CM g (gb e he);have ends:∀d,d/2∈[a,b,c]->(dG L (pieces L) [a,b,c])[oT L.length d]?=(pieces L)[oH L.length d]? /\(dG L (pieces L) [a,b,c])[oH L.length d]?=(pieces L)[oT L.length d]? :=fun d hd=>by
  obtain⟨k1,k2⟩:=s1 _ hd;unfold oT oH;split
  .exact⟨k1,k2⟩
  exact⟨k2,k1⟩
 have sym:∀ {e e':Nat},rX L e e'->rX L e' e:=fun h=>⟨h.1.symm,h.2.2.1.symm,h.2.1.symm,h.2.2.2.symm⟩;obtain⟨j1,j2⟩:=mB.1 dj;have jab:=j1 b af;have jac:=j1 c af;have jbc:=(mB.1 j2).1 c af;have step:∀d d',d<2*L.length->d'<2*L.length->aO L d=d'->d/2∈[a,b,c]->d'/2∈[a,b,c]->rX L (d/2) (d'/2)->aO X (kV L.length f d)=kV L.length f d':=by
  intro d d' hd yn e m1 m2 hj;subst e;obtain⟨q1,q2⟩:=kk _ m1;obtain⟨l,hl⟩:=aL (yG g hd);obtain⟨m,hm⟩:=aL (Iz g yn);have hlc:l.aB=true:=by
   have:(bk L (oH L.length d)).kind=2:=by
    unfold oH;split
    .exact q2
    exact q1
   rw[iN hl]at this;unfold Let.aB;rw[this];rfl
  obtain⟨_,k2,_,_⟩:=DH g hd hl hlc;obtain⟨_,mc,mi⟩:=BW g.ok hl hlc (u:=oT L.length (aO L d)) hm k2.symm;refine S.ajV g hP hd hl hlc (e:=eN L (oH L.length d)) (e':=eN L (oT L.length (aO L d))) ?_ ?_ mc mi ?_
  .rw[(ends d m1).1,ju hl]
  .rw[(ends _ m2).2,ju hm]
  exact(QI hj).2.1
 have NH:∀d,kV L.length f d<2*X.length:=fun d=>by rw[hX];exact UB hf
 have hN:∀d,kV L.length f d<nD X:=fun d=>by have:=NH d;unfold nD;omega
 have w0:∀d,vn F X (kV L.length f d)=0:=fun d=>aD (NH d);have fin:∀es:a_,d1/2∈[a,b,c]->d2/2∈[a,b,c]->d3/2∈[a,b,c]->rX L (d1/2) (d2/2)->rX L (d2/2) (d3/2)->rX L (d1/2) (d3/2)->wm F X 0 [sF L.length f (d1/2),sF L.length f (d2/2),sF L.length f (d3/2)]=true:=by
  intro es m1 m2 m3 j12 j23 j13;have ne:∀d d':Nat,d<2*L.length->d'<2*L.length->d/2≠d'/2->kV L.length f d/2≠kV L.length f d'/2:=fun d d' h1 h2 h3 e=>by rw[GY,GY]at e;exact h3 (By hf aa aa e)
  have Hj:=ne d1 d2 l1 l2 j12.1;have e23:=ne d2 d3 l2 l3 j23.1;have Fv:=ne d1 d3 l1 l3 j13.1;rw[<-GY L.length f d1,<-GY L.length f d2,<-GY L.length f d3];have t1:=step d1 d2 l1 l2 n1 m1 m2 j12;have t2:=step d2 d3 l2 l3 n2 m2 m3 j23;have t3:=step d3 d1 l3 l1 n3 m3 m1 (sym j13);have x1:=NH d1;have x2:=NH d2;have x3:=NH d3;have y1:=w0 d1;have y2:=w0 d2;have y3:=w0 d3;have z1:=hN d1;have z2:=hN d2;have z3:=hN d3;generalize kV L.length f d1=p at*;generalize kV L.length f d2=q at*;generalize kV L.length f d3=r at*;have N4:([p,q,r].filter fun x=>decide (x<2*X.length))=[p,q,r]:=List.filter_eq_self.2 fun x hx=>by simp only[bJ,eo,or_false]at hx;rw[mf];rcases hx with rfl|rfl|rfl<;>assumption
  refine ahT S.g aa aa aa z1 z2 z3 t1 t2 t3 (by rw[N4];rfl) (by rw[y1,y2,y3]) fun e he=>?_;rw[N4];simp only[bJ,eo,or_false]at he |-;omega
 rcases aqG with⟨rfl,rfl,rfl⟩|⟨rfl,rfl,rfl⟩
 .exact fin [] af af af jab jbc jac
 have:=fin [] af af af jac (sym jbc) jab;rw[Lm (List.Perm.cons _ (List.Perm.swap _ _ []))]at this;exact this
end
section
variable {F:Nat} {L X:ai} {P:c_} {f:Nat}
def Sh.bk(S:Sh F P X f)(hP:P.length=L.length){v u:Nat}(hv:v<L.length)(hu:u<L.length)(h:P[v]?=(pieces L)[u]?):Go.Abs.bk X (sF L.length f v)=Go.Abs.bk L u:=by obtain⟨l,hl⟩:=aL hu;rw[ju hl]at h;have:=S.at_ v _ h;rw[hP]at this;rw[iN this,iN hl]
def axb(g:ch F L){a b c:Nat}(dL:a<b)(yj:b<c)(hc:c<L.length){P:c_}(h:nY F L a b c=some P)(vX:cG (F:Int) (dO P)=0):∃a' b' c' Q,a'<b'/\b'<c'/\c'<(dO P).length/\nY F (dO P) a' b' c'=some Q/\lM (dO Q) L:=by
 have cP:=MO g aa aa hc h;unfold nY at h;split at h
 case isFalse=>cases h
 rename_i ht;cases h;have ha:a<L.length:=aa;have hb:b<L.length:=aa;have ht:wB F L [a,b,c] a=true:=ht;obtain⟨f,S⟩:=aee cP vX;have bU:=eY L;have hP:(dG L (pieces L) [a,b,c]).length=L.length:=by rw[qt,bU]
 obtain⟨dj,kk,_⟩:=ajS g ha hb hc ht;have gb:∀e∈[a,b,c],e<L.length:=fun e he=>by simp only[bJ,eo,or_false]at he;rcases he with rfl|rfl|rfl<;>assumption
 have afd:=axa g ha hb hc ht S;have ss:=awR (Z:=pieces L) bU gb dj fun e he=>CM g (gb e he);obtain⟨s1,_⟩:=Pv (Z:=pieces L) bU gb dj fun e he=>CM g (gb e he);have X1:∀p∈dG L (pieces L) [a,b,c],p.l.aE=false->p.d=false:=fun p hp h=>aia (ajG bU gb hp) h;generalize dO (dG L (pieces L) [a,b,c])=X at S vX afd |-;generalize dG L (pieces L) [a,b,c]=P at*;have hf:=S.hf;have hX:=S.len;rw[hP]at hf hX;have FZ:∀e∈[a,b,c],nx L e<L.length:=fun e _=>de _ aa;have q1:∀e∈[a,b,c],bk X (sF L.length f e)=bk L (nx L e)/\bk X (nx X (sF L.length f e))=bk L e:=fun e he=>by obtain⟨k1,k2⟩:=s1 e he;rw[S.nx hP (gb e he)];exact⟨S.bk hP (gb e he) (FZ e he) k1,S.bk hP (FZ e he) (gb e he) k2⟩
 have ine:∀e∈[a,b,c],sF L.length f e<X.length:=fun e _=>by rw[hX];exact Ag hf
 have HA:∀e∈[a,b,c],∀o,iA X (sF L.length f e) o=iA L e o/\ru X (sF L.length f e)=ru L e:=fun e he o=>by
  obtain⟨k1,k2⟩:=q1 e he;unfold iA ru;have e1:∀x,(pA X x).l=bk X x:=fun _=>rfl;have e2:∀x,(pA L x).l=bk L x:=fun _=>rfl;rw[e1,e1,e2,e2,k1,k2];constructor
  .cases ((bk L e).kind==2)<;>cases((bk L (nx L e)).kind==2)<;>cases((bk L e).over==o)<;>cases((bk L (nx L e)).over==o)<;>rfl
  exact Bool.and_comm _ _
 have Eo:wB F X ([a,b,c].map (sF L.length f)) (sF L.length f a)=true:=by
  have Cp:=ht;unfold wB at Cp |-;simp only[cH,cZ]at Cp |-;obtain⟨h1,h2,h3,h4,h5,h6⟩:=Cp;have any_:∀o,[a,b,c].any (iA L · o)=true->([a,b,c].map (sF L.length f)).any (iA X · o)=true:=fun o h=>by obtain⟨e,hm,hb⟩:=wG.1 h;exact wG.2 ⟨_,cJ.2 ⟨e,hm,rfl⟩,by rw[(HA e hm o).1];exact hb⟩
  have na:=S.nx hP ha;have nb:=S.nx hP hb;have nc:=S.nx hP hc;refine⟨?_,?_,?_,any_ _ h4,any_ _ h5,?_⟩
  .rw[gk]at h1 |-;intro x hx;obtain⟨e,hm,rfl⟩:=cJ.1 hx;rw[(HA e hm true).2];exact h1 e hm
  .let q:Int->Int:=fun z=>((sF L.length f z.toNat:Nat):Int)
   have e1:mw X ([a,b,c].map (sF L.length f))=(mw L [a,b,c]).map q:=by show [((sF L.length f a:Nat):Int),(nx X (sF L.length f a):Int),((sF L.length f b:Nat):Int),(nx X (sF L.length f b):Int),((sF L.length f c:Nat):Int),(nx X (sF L.length f c):Int)]=_;rw[na,nb,nc];rfl
   rw[e1,U3,h2];intro x hx y hy js;have key:∀x∈mw L [a,b,c],∃n:Nat,n<L.length/\x=(n:Int):=fun x hx=>by
    unfold mw at hx;obtain⟨e,hm,hx⟩:=Di.1 hx;simp only[bJ,eo,or_false]at hx;rcases hx with rfl|rfl
    .exact⟨e,gb e hm,rfl⟩
    exact⟨_,FZ e hm,rfl⟩
   obtain⟨u,hu,rfl⟩:=key x hx;obtain⟨v,hv,rfl⟩:=key y hy;have js:((sF L.length f u:Nat):Int)=((sF L.length f v:Nat):Int):=js;rw[By hf hu hv aa]
  .rw[<-h3];refine QH fun x=>?_;unfold qX;simp only[Di,cJ,bJ,eo,or_false];have e1:∀x,(pA X x).l=bk X x:=fun _=>rfl;have e2:∀x,(pA L x).l=bk L x:=fun _=>rfl;simp only[e1,e2];have hm:∀e,(e=a\/e=b\/e=c)->e∈[a,b,c]:=fun e h=>by simpa using h
   constructor
   .rintro ⟨_,⟨e,he,rfl⟩,hx⟩
    obtain⟨k1,k2⟩:=q1 e (hm e he);rw[k1,k2]at hx;exact⟨e,he,hx.symm⟩
   rintro⟨e,he,hx⟩
   obtain⟨k1,k2⟩:=q1 e (hm e he);refine⟨_,⟨e,he,rfl⟩,?_⟩;rw[k1,k2];exact hx.symm
  rw[BN (e0:=sF L.length f a) rfl (ine a af)];exact afd
 have HG:∀e∈[a,b,c].map (sF L.length f),e<X.length:=fun e he=>by obtain⟨x,hx,rfl⟩:=cJ.1 he;exact ine x hx
 have ne:∀x y,x<L.length->y<L.length->x≠y->sF L.length f x≠sF L.length f y:=fun x y hx hy h e=>h (By hf hx hy e);obtain⟨a',b',c',h1,h2,hp⟩:=ajv (ne a b ha hb aa) (ne a c ha hc aa) (ne b c hb hc aa);have hp:([a,b,c].map (sF L.length f)).Perm [a',b',c']:=hp;have Cp:=ajM HG hp rfl rfl Eo;have iv:c'<X.length:=HG c' (hp.mem_iff.2 af);have hY:nY F X a' b' c'=some (dG X (pieces X) [a',b',c']):=aD Cp;refine⟨a',b',c',_,h1,h2,iv,hY,?_⟩;have cY:=MO S.g aa aa iv hY;have JQ:([a,b,c].map (sF L.length f)).Pairwise (rX X):=ZW rfl (by unfold wB at Eo;simp only[cH,cZ]at Eo;exact Eo.2.1)
 have zy:=eY X;have yw:=Tw hp (X:=pieces X) zy HG JQ;rw[<-yw]at cY |-;refine S.back g hP cY (by rw[qt,zy,hX]) fun v hv=>?_;rw[S.sw hP (Y:=pieces X) (Z:=P) (by rw[zy,hX]) hP gb (fun v hv=>S.CO hP X1 hv) v hv,ss]
end
end
def acA{L:ai}{v:Nat}{l:Let}(h:L[v]?=some l)(hp:l.aE=true):eN L v=dn L v:=by unfold eN;rw[h];show(l.aE&&dn L v)=_;rw[hp];rfl
section
variable {F:Nat} {L X:ai} {P:c_} {f:Nat}
def Sh.aq(S:Sh F P X f)(q:Let->Bool):Go.Abs.aq q X=Go.Abs.aq q (P.map Pc.l):=by
 have hf:=S.hf;have hX:=S.len;have e:X=eI (P.map Pc.l) f:=by
  apply xL;intro k;have hl:(P.map Pc.l).length=P.length:=cE ..;by_cases hk:k<P.length
  .have jr:(f+k)%P.length<P.length:=de _ aa;obtain⟨p,hp⟩:=aL jr;have:=S.at_ _ p hp;rw[aiX hf hk]at this;rw[this,LG aa aa,hl,fG,hp];rfl
  rw[n9 aa,n9 (by rw[yJ];omega)]
 rw[e,JH]
def ajg(g:ch F L)(S:Sh F P X f)(hP:P.length=L.length)(A9:∀q:Let->Bool,(∀(l:Let) (r:Int),q {l with aw:=r}=q l)->Go.Abs.aq q (P.map Pc.l)=Go.Abs.aq q L)
  {d p v q w:Nat} (hd:d<2*L.length) (yn:aO L d<2*L.length) (t1:oT L.length d=p) (t2:oH L.length d=v) (t3:oT L.length (aO L d)=w) (t4:oH L.length (aO L d)=q) (xg:p≠q) (Kr:d/2≠aO L d/2)
  {lp lv lq lw:Let} (nu:L[p]?=some lp) (jM:L[v]?=some lv) (vQ:L[q]?=some lq) (zP:L[w]?=some lw) (pp:lp.aE=true) (cv:lv.aB=true) (pq:lq.aE=true) (cw:lw.aB=true) (hid:lw.id=lv.id)
  {e1 e2:Bool} (P1:P[p]?=some ⟨lv,e1⟩) (P2:P[q]?=some ⟨lw,e2⟩) (P3:P[v]?=some ⟨{lp with aw:=lq.aw},eN L p⟩) (P4:P[w]?=some ⟨{lq with aw:=lp.aw},eN L q⟩)
  (hg:lp.gate=lq.gate) (apP:(dn L q=aY (aO L d)/\lp.aw=lq.aw+1/\aY d= !dn L p)\/(dn L q=(!aY (aO L d))/\lq.aw=lp.aw+1/\aY d=dn L p)):wm F X 1 [sF L.length f (d/2),sF L.length f (aO L d/2)]=true:=by
 have hf:=S.hf;have hX:=S.len;rw[hP]at hf hX;have x3:=S.at_ _ _ P3;have x4:=S.at_ _ _ P4;have y3:=S.dn _ _ P3 pp;have y4:=S.dn _ _ P4 pq;rw[hP]at x3 x4 y3 y4;rw[acA nu pp]at y3;rw[acA vQ pq]at y4;have y3:dn X (sF L.length f v)=dn L p:=y3;have y4:dn X (sF L.length f w)=dn L q:=y4;have gP:=g.ok.ax.fi lp (aV nu) pp;have gQ:=g.ok.ax.fi lq (aV vQ) pq;have HJ:∀k,fh X k=fh L k:=fun k=>by unfold fh;congr 1;refine As fun z _=>?_;show Go.Abs.aq (mE z) X=Go.Abs.aq (mE z) L;rw[S.aq,A9 _ fun l r=>rfl]
 have gT:(aG X).length=(aG L).length:=by rw[Dy,Dy];show Go.Abs.aq Let.aE X=Go.Abs.aq Let.aE L;rw[S.aq,A9 _ fun l r=>rfl]
 have pl3:dF X {lp with aw:=lq.aw}=dF L lq:=by unfold dF;show fh X lp.gate.toNat+lq.aw.toNat-1=_;rw[HJ,hg]
 have pl4:dF X {lq with aw:=lp.aw}=dF L lp:=by unfold dF;show fh X lq.gate.toNat+lp.aw.toNat-1=_;rw[HJ,hg]
 have a3:=Jx S.g.ok.ax x3 pp;have a4:=Jx S.g.ok.ax x4 pq;have i4:=Fh S.g.ok.ax x4 pq;rw[pl3]at a3;rw[pl4]at a4 i4;have k3:=(aT.1 a3).1;have k4:=(aT.1 a4).1;have g3:(aG X).getD (dF L lq) 0=sF L.length f v:=by rw[dC,a3];rfl
 have g4:(aG X).getD (dF L lp) 0=sF L.length f w:=by rw[dC,a4];rfl
 have n1:aO X (kV L.length f d)=kV L.length f (aO L d):=S.ajV g hP hd (by rw[t2];exact jM) cv (by rw[t1];exact P1) (by rw[t4];exact P2) cw hid (by rw[t1,t4];exact xg);have n2:=Gz x4 pq (!aY (aO L d));rw[hX,y4,i4,<-t3,<-abx hf yn]at n2;have n3:=abw hf hd;rw[t2]at n3;have hD:=UB (d:=d) hf;have hD':=UB (d:=aO L d) hf;have hdiv:=GY L.length f d;have ae8:=GY L.length f (aO L d);have aH:sF L.length f (d/2)≠sF L.length f (aO L d/2):=fun e=>Kr (By hf aa aa e);obtain⟨l1,l2,l3,l4⟩:=gP;obtain⟨m1,m2,m3,m4⟩:=gQ;have finish:∀x,2*L.length<=x->x<nD X->aO X (kV L.length f (aO L d))=x->aO X x=kV L.length f d->vn F X x=1->wm F X 1 [sF L.length f (d/2),sF L.length f (aO L d/2)]=true:=by
  intro x tu yy q1 q2 q3;rw[<-hdiv,<-ae8];rw[<-hdiv,<-ae8]at aH;have z1:vn F X (kV L.length f d)=0:=aD aa;have z2:vn F X (kV L.length f (aO L d))=0:=aD aa;have iL:kV L.length f d<nD X:=by unfold nD;omega
  have uW:kV L.length f (aO L d)<nD X:=by unfold nD;omega
  generalize kV L.length f d=r at*;generalize kV L.length f (aO L d)=t at*;have N4:([r,t,x].filter fun x=>decide (x<2*X.length))=[r,t]:=by rw[akv (by rw[mf];omega),akv (by rw[mf];omega),TW (by rw[mf];omega)];rfl
  refine ahT S.g aa aa aa iL uW yy n1 q1 q2 (by rw[N4];rfl) (by rw[z1,z2,q3]) fun e he=>?_;rw[N4];simp only[bJ,eo,or_false]at he |-;omega
 have wt:∀k x u u',k+1<(aG X).length->(x=2*L.length+2*k\/x=2*L.length+2*k+1)->(aG X).getD k 0=u->(aG X).getD (k+1) 0=u'->gN X u=gN X u'->vn F X x=1:=by intro k x u u' hk hx hu KP he;unfold vn;rw[au aa,hX,show(x-2*L.length)/2=k by omega];unfold qU;simp only;rw[aD hk,Bz,fT hk,hu,KP,he];omega
 have gg:gN X (sF L.length f v)=gN X (sF L.length f w):=by rw[A3 x3,A3 x4];show lp.gate.toNat=lq.gate.toNat;rw[hg]
 rcases apP with⟨c1,c2,c3⟩|⟨c1,c2,c3⟩
 .have hk:dF L lp=dF L lq+1:=by
   unfold dF;rw[hg];omega
  rw[hk]at g4 k4 n2;rw[c1,au (by cases aY (aO L d)<;>decide),show dF L lq+1+(aG X).length-1=dF L lq+(aG X).length by omega,ow,fT k3]at n2;refine finish _ aa (by unfold nD;omega) n2 ?_ (wt _ _ _ _ k4 (.inr rfl) g3 g4 gg);have:=EM (ls:=X) (dF L lq);rw[hX,g3,y3]at this;rw[this,n3,c3];cases dn L p<;>rfl
 have hk:dF L lq=dF L lp+1:=by unfold dF;rw[hg];omega
 rw[hk]at g3 k3;rw[c1,aD (by cases aY (aO L d)<;>decide)]at n2;refine finish _ aa (by unfold nD;omega) n2 ?_ (wt _ _ _ _ k3 (.inl rfl) g4 g3 gg.symm);have:=EN (ls:=X) (dF L lp);rw[hX,fT k3,g3,y3]at this;rw[this,n3,c3]
end
section
variable {F:Nat} {L X:ai} {P:c_} {f:Nat}
def ajf(g:ch F L){wk:a_}(hw:wk∈gH (aO L) (nD L))(lY:(mg F L wk).places.length=1){d:Nat}(yn:aO L d<2*L.length)(hm:aO L d∈wk)(two:∀y,y∈wk->y<2*L.length->y=d\/y=aO L d)
  {p q w:Nat} (t1:oT L.length d=p) (t3:oT L.length (aO L d)=w) (t4:oH L.length (aO L d)=q) {lp lq lw:Let} (nu:L[p]?=some lp) (vQ:L[q]?=some lq) (zP:L[w]?=some lw) (pq:lq.aE=true) (cw:lw.aB=true):
  lp.gate=lq.gate/\((dn L q=aY (aO L d)/\lp.aw=lq.aw+1/\aY d= !dn L p)\/(dn L q=(!aY (aO L d))/\lq.aw=lp.aw+1/\aY d=dn L p)):=by
 obtain⟨u,m,y,y1,y2,y3,y4,y5⟩:=SD g hw lY hm (v:=q) (fw:=aY (aO L d)) (by rw[<-t4];exact DK yn) vQ pq;have hu:=(aT.1 y2).1;have al:∀h,oT L.length (dx L.length u h)=u/\dx L.length u h<2*L.length/\aY (dx L.length u h)=h:=fun h=>⟨(Hf hu).1,by
  have:=xS hu (!h);rw[<-Ad]at this;have:=Ae this;rwa[Af]at this,(Hf hu).2⟩
 have vY:oT L.length y=u/\y<2*L.length:=by
  rcases y5 with⟨_,_,e⟩|⟨_,_,e⟩<;>rw[e]
  .exact⟨(al _).1,(al _).2.1⟩
  exact⟨(al _).1,(al _).2.1⟩
 have hyd:y=d:=by
  rcases two y y1 vY.2 with e|e
  .exact e
  exfalso;rw[e,t3]at vY;rw[<-vY.1,zP]at y2;have:=pz y2;rw[<-this,nz cw]at y3;cases y3
 rw[hyd,t1]at vY;have e:=vY.1;subst e;rw[nu]at y2;cases y2;refine⟨y4.symm,?_⟩;rcases y5 with⟨h1,h2,h3⟩|⟨h1,h2,h3⟩
 .exact .inl ⟨h1,h2,by rw[<-hyd,h3];exact(al _).2.2⟩
 exact .inr ⟨h1,h2,by rw[<-hyd,h3];exact(al _).2.2⟩
def wT.two{e p v:Nat}(h:wT L e p v){Q:Nat->Nat->Prop}(hs:∀x y,Q x y->Q y x):Q e (nx L e)↔Q p v:=by
 rcases h.1 with⟨rfl,rfl⟩|⟨rfl,rfl⟩
 .exact uv
 exact⟨hs _ _,hs _ _⟩
def awd(g:ch F L){a b:Nat}(dL:a<b)(hb:b<L.length){P:c_}(h:oI F L a b=some P)(vX:cG (F:Int) (dO P)=0):∃a' b' Q,a'<b'/\b'<(dO P).length/\oI F (dO P) a' b'=some Q/\lM (dO Q) L:=by
 have ha:a<L.length:=aa;have aH:a≠b:=aa;have cP:=MN g ha hb aH h;obtain⟨p,v,q,w,c,rfl⟩:=Qq g ha hb h;have dj:=c.dj g ha hb aH;have xg:=c.pq g ha hb aH;obtain⟨hp,hv⟩:=c.ea.lt ha;obtain⟨hq,hw⟩:=c.eb.lt hb;have bU:=eY L;obtain⟨lp,nu⟩:=aL hp;obtain⟨lv,jM⟩:=aL hv;obtain⟨lq,vQ⟩:=aL hq;obtain⟨lw,zP⟩:=aL hw;have kP:∀ {l:Let},l.kind=1->l.aE=true:=fun h=>by unfold Let.aE;rw[h];rfl
 have kC:∀ {l:Let},l.kind=2->l.aB=true:=fun h=>by unfold Let.aB;rw[h];rfl
 have pp:lp.aE=true:=kP (by rw[<-iN nu];exact c.ea.2.1);have pq:lq.aE=true:=kP (by rw[<-iN vQ];exact c.eb.2.1);have cv:lv.aB=true:=kC (by rw[<-iN jM];exact c.ea.2.2);have cw:lw.aB=true:=kC (by rw[<-iN zP];exact c.eb.2.2);have hid:lv.id=lw.id:=by rw[<-iN jM,<-iN zP];exact c.id
 have Cr:=c.vw;have pv:=KZ c.ea.2.1 c.ea.2.2;have pw:=KZ c.ea.2.1 c.eb.2.2;have qv:=KZ c.eb.2.1 c.ea.2.2;have qw:=KZ c.eb.2.1 c.eb.2.2;rw[iN vQ,iN nu]at cP vX |-;have gb:∀e∈[a,b],e<L.length:=fun e he=>by simp only[bJ,eo,or_false]at he;rcases he with rfl|rfl<;>assumption
 have djl:[a,b].Pairwise (rX L):=by simp only[mB,bJ,eo,or_false,false_imp_iff,implies_true,and_true,forall_eq,List.Pairwise.nil];exact dj
 have tn:∀e∈[a,b],e≠nx L e:=fun e he=>CM g (gb e he)
 -- what stands where
 have swx:∀ {Z:c_},Z.length=L.length->(dG L Z [a,b])[p]?=Z[v]? /\(dG L Z [a,b])[v]?=Z[p]? /\(dG L Z [a,b])[q]?=Z[w]? /\(dG L Z [a,b])[w]?=Z[q]? /\ ∀x,x≠p->x≠v->x≠q->x≠w->(dG L Z [a,b])[x]?=Z[x]? :=fun{Z} hZ=>by
  obtain⟨k1,k2⟩:=Pv hZ gb djl tn;have ka:=(c.ea.two (Q:=fun x y=>(dG L Z [a,b])[x]?=Z[y]? /\(dG L Z [a,b])[y]?=Z[x]?) fun _ _ h=>⟨h.2,h.1⟩).1 (k1 a af);have kb:=(c.eb.two (Q:=fun x y=>(dG L Z [a,b])[x]?=Z[y]? /\(dG L Z [a,b])[y]?=Z[x]?) fun _ _ h=>⟨h.2,h.1⟩).1 (k1 b af);refine⟨ka.1,ka.2,kb.1,kb.2,fun x n1 n2 n3 n4=>k2 x fun e he=>?_⟩;simp only[bJ,eo,or_false]at he;rcases he with rfl|rfl
  .exact(c.ea.two (Q:=fun y z=>x≠y/\x≠z) fun _ _ h=>⟨h.2,h.1⟩).2 ⟨n1,n2⟩
  exact(c.eb.two (Q:=fun y z=>x≠y/\x≠z) fun _ _ h=>⟨h.2,h.1⟩).2 ⟨n3,n4⟩
 have hzp:=ju nu;have hzq:(dp (pieces L) p lq.aw)[q]?=some ⟨lq,eN L q⟩:=by rw[qp hzp,au (Ne.symm xg)];exact ju vQ
 have zg:∀x,(dp (dp (pieces L) p lq.aw) q lp.aw)[x]?=if x=q then some ⟨{lq with aw:=lp.aw},eN L q⟩else if x=p then some ⟨{lp with aw:=lq.aw},eN L p⟩else(pieces L)[x]? :=fun x=>by rw[qp hzq,qp hzp]
 have Hy:(dp (dp (pieces L) p lq.aw) q lp.aw).length=L.length:=by rw[qq,qq,bU]
 obtain⟨P1,P3,P2,P4,P5⟩:=swx Hy;rw[zg,au (Ne.symm qv),au (Ne.symm pv),ju jM]at P1;rw[zg,au xg,aD rfl]at P3;rw[zg,au (Ne.symm qw),au (Ne.symm pw),ju zP]at P2;rw[zg,aD rfl]at P4;have P5:∀x,x≠p->x≠v->x≠q->x≠w->(dG L (dp (dp (pieces L) p lq.aw) q lp.aw) [a,b])[x]?=(pieces L)[x]? :=fun x n1 n2 n3 n4=>by rw[P5 x n1 n2 n3 n4,zg,au n3,au n1]
 have hP:(dG L (dp (dp (pieces L) p lq.aw) q lp.aw) [a,b]).length=L.length:=by rw[qt,Hy]
 have A9:∀q':Let->Bool,(∀(l:Let) (r:Int),q' {l with aw:=r}=q' l)->aq q' ((dG L (dp (dp (pieces L) p lq.aw) q lp.aw) [a,b]).map Pc.l)=aq q' L:=fun q' rI=>by rw[<-Pd (ls:=L) q'];show List.countP _ _=List.countP _ _;rw[yS,yS];show(eG L (eG L (dp (dp (pieces L) p lq.aw) q lp.aw) a) b).countP _=_;rw[Gx (by rw[uu,Hy]) hb (CM g hb),Gx Hy ha (CM g ha),Pr hzq (fun p=>rI _ _),Pr hzp (fun p=>rI _ _)]
 have X1:∀z∈dG L (dp (dp (pieces L) p lq.aw) q lp.aw) [a,b],z.l.aE=false->z.d=false:=fun z hz h=>by
  have hz:=ajG Hy gb hz;obtain⟨x,hx⟩:=gV hz;rw[zg]at hx;split at hx
  .cases hx;have:lq.aE=false:=h;rw[pq]at this;cases this
  split at hx
  .cases hx;have:lp.aE=false:=h;rw[pp]at this;cases this
  exact aia (aV hx) h
 obtain⟨f,S⟩:=aee cP vX;generalize dG L (dp (dp (pieces L) p lq.aw) q lp.aw) [a,b]=P at*;generalize dO P=X at*;have hf:=S.hf;have hX:=S.len;rw[hP]at hf hX
 -- the face
 have face:wm F X 1 [sF L.length f a,sF L.length f b]=true:=by
  obtain⟨wk,hwk,lY,d,d1,d2,d3,d4,two,cs⟩:=ZK g ha hb aH c.ea.1 c.eb.1 jM zP nu vQ cv cw pp pq hid Cr c.cor;rcases cs with⟨e1,e2,t1,t2,t3,t4⟩|⟨e1,e2,t1,t2,t3,t4⟩
  .obtain⟨hg,hc⟩:=ajf g hwk lY d4 d3 two t1 t3 t4 nu vQ zP pq cw;have:=ajg g S hP A9 d2 d4 t1 t2 t3 t4 xg aa nu jM vQ zP pp cv pq cw hid.symm P1 P2 P3 P4 hg hc;rwa[e1,e2]at this
  obtain⟨hg,hc⟩:=ajf g hwk lY d4 d3 two t1 t3 t4 vQ nu jM pp cv;have:=ajg g S hP A9 d2 d4 t1 t2 t3 t4 xg.symm aa vQ zP nu jM pq cw pp cv hid P2 P1 P4 P3 hg hc;rw[e1,e2]at this;rw[Lm (List.Perm.swap _ _ [])];exact this
 have x1:=S.at_ _ _ P1;have x2:=S.at_ _ _ P2;have x3:=S.at_ _ _ P3;have x4:=S.at_ _ _ P4;rw[hP]at x1 x2 x3 x4;have kp:lp.kind=1:=by rw[<-iN nu];exact c.ea.2.1
 have kq:lq.kind=1:=by rw[<-iN vQ];exact c.eb.2.1
 have kv:lv.kind=2:=by rw[<-iN jM];exact c.ea.2.2
 have kw:lw.kind=2:=by rw[<-iN zP];exact c.eb.2.2
 have ed:∀ {e p v:Nat},e<L.length->wT L e p v->(bk X (sF L.length f v)).kind=1->(bk X (sF L.length f p)).kind=2->wT X (sF L.length f e) (sF L.length f v) (sF L.length f p):=by
  intro e p v he h h1 h2;refine⟨?_,h1,h2⟩;rw[S.nx hP he];rcases h.1 with⟨rfl,rfl⟩|⟨rfl,rfl⟩
  .exact .inr ⟨rfl,rfl⟩
  exact .inl ⟨rfl,rfl⟩
 have C':C3 F X (sF L.length f a) (sF L.length f b) (sF L.length f v) (sF L.length f p) (sF L.length f w) (sF L.length f q):=by refine⟨ed ha c.ea (by rw[iN x3];exact kp) (by rw[iN x1];exact kv),ed hb c.eb (by rw[iN x4];exact kq) (by rw[iN x2];exact kw),fun e=>xg (By hf hp hq e),by rw[iN x1,iN x2];exact hid,?_⟩;rw[BN (e0:=sF L.length f a) rfl (by rw[hX];exact Ag hf)];exact face
 have la:sF L.length f a<X.length:=by rw[hX];exact Ag hf
 have lb:sF L.length f b<X.length:=by rw[hX];exact Ag hf
 have Ck:sF L.length f a≠sF L.length f b:=fun e=>aH (By hf ha hb e);have JQ:=C'.dj S.g la lb Ck;have vw':=C'.pq S.g la lb Ck;have zy:=eY X;have r1:(bk X (sF L.length f w)).aw=lp.aw:=by rw[iN x4]
 have r2:(bk X (sF L.length f v)).aw=lq.aw:=by rw[iN x3]
 -- pieces of the way back
 have hPv:P[v]?=some ⟨{lp with aw:=lq.aw},eN L p⟩:=P3;have hPw:(dp P v lp.aw)[w]?=some ⟨{lq with aw:=lp.aw},eN L q⟩:=by rw[qp hPv,au (Ne.symm Cr)];exact P4
 have CO:=fun{x:Nat} (hx:x<L.length)=>S.CO hP X1 hx;have hYv:(pieces X)[sF L.length f v]?=some ⟨{lp with aw:=lq.aw},eN L p⟩:=(CO hv).trans P3;have hYw:(dp (pieces X) (sF L.length f v) lp.aw)[sF L.length f w]?=some ⟨{lq with aw:=lp.aw},eN L q⟩:=by rw[qp hYv,au (Ne.symm vw')];exact(CO hw).trans P4
 have hYZ:∀x,x<L.length->(dp (dp (pieces X) (sF L.length f v) lp.aw) (sF L.length f w) lq.aw)[sF L.length f x]?=(dp (dp P v lp.aw) w lq.aw)[x]? :=fun x hx=>by
  rw[qp hYw,qp hPw,qp hYv,qp hPv];by_cases c1:x=w
  .subst c1;rw[aD rfl,aD rfl]
  rw[au c1,au fun k=>c1 (By hf hx hw k)];by_cases c2:x=v
  .subst c2;rw[aD rfl,aD rfl]
  rw[au c2,au fun k=>c2 (By hf hx hv k),CO hx]
 have hZ2:(dp (dp P v lp.aw) w lq.aw).length=L.length:=by rw[qq,qq,hP]
 have back:dG L (dp (dp P v lp.aw) w lq.aw) [a,b]=pieces L:=by
  obtain⟨b1,b2,b3,b4,b5⟩:=swx hZ2;have zz:∀x,(dp (dp P v lp.aw) w lq.aw)[x]?=if x=w then some ⟨lq,eN L q⟩else if x=v then some ⟨lp,eN L p⟩else P[x]? :=fun x=>by rw[qp hPw,qp hPv]
  rw[zz,au Cr,aD rfl]at b1;rw[zz,au pw,au pv,P1]at b2;rw[zz,aD rfl]at b3;rw[zz,au qw,au qv,P2]at b4;apply xL;intro x;by_cases c1:x=p
  .subst c1;rw[b1,ju nu]
  by_cases c2:x=v
  .subst c2;rw[b2,ju jM]
  by_cases c3:x=q
  .subst c3;rw[b3,ju vQ]
  by_cases c4:x=w
  .subst c4;rw[b4,ju zP]
  rw[b5 x c1 c2 c3 c4,zz,au c4,au c2,P5 x c1 c2 c3 c4]
 have done:∀a' b' Y,a'<b'->b'<X.length->oI F X a' b'=some Y->Y=dG X (dp (dp (pieces X) (sF L.length f v) lp.aw) (sF L.length f w) lq.aw) ([a,b].map (sF L.length f))->∃a' b' Q,a'<b'/\b'<X.length/\oI F X a' b'=some Q/\lM (dO Q) L:=fun a' b' Y h1 h2 h3 h4=>by
  refine⟨a',b',Y,h1,h2,h3,?_⟩;have cY:=MN S.g (a:=a') (b:=b') aa h2 aa h3;have hYl:(dp (dp (pieces X) (sF L.length f v) lp.aw) (sF L.length f w) lq.aw).length=L.length:=by rw[qq,qq,zy,hX]
  refine S.back g hP cY (by rw[h4,qt,hYl]) fun x hx=>?_;rw[h4,S.sw hP hYl hZ2 gb hYZ x hx,back]
 by_cases aA:sF L.length f a<sF L.length f b
 .refine done _ _ _ aA lb C'.as ?_;rw[r1,r2];rfl
 refine done _ _ _ (show sF L.length f b<sF L.length f a by omega) la (C'.symm la lb).as ?_;rw[r1,r2,ai8 (X:=pieces X) (p:=sF L.length f w) (q:=sF L.length f v) (by rw[zy,hX];exact Ag hf) (by rw[zy,hX];exact Ag hf) (Ne.symm vw')];refine Tw (List.Perm.swap _ _ []) (by rw[qq,qq,zy]) (fun e he=>?_) ?_
 .simp only[bJ,eo,or_false]at he;rcases he with rfl|rfl<;>assumption
 simp only[mB,bJ,eo,or_false,false_imp_iff,implies_true,and_true,forall_eq,List.Pairwise.nil];exact⟨JQ.1.symm,JQ.2.2.1.symm,JQ.2.1.symm,JQ.2.2.2.symm⟩
def ahg(g:ch F L){m:aS}{X:ai}(hk:m.k=3\/m.k=8)(h:fg F L m=some X):∃m' Z,m'.k=m.k/\fg F X m'=some Z/\lM Z L:=by
 obtain⟨k,a,b,c,l,o,sg⟩:=m;have hk:k=3\/k=8:=hk;obtain⟨hX,hA,P,hP,rfl⟩:=Ds g (show k5 k by unfold k5;omega) h;simp only at hA hP;have gX:ch F (dO P):=by
  have aH:dO P≠[]:=fun e=>by
   have hc:∃z,dO P=z/\z.length=P.length:=⟨_,rfl,by rw[Ra]⟩;have DV:P.length=0:=by obtain⟨z,e1,e2⟩:=hc;rw[<-e2,<-e1,e];rfl
   have hl:P.length=L.length:=by
    rcases hk with rfl|rfl
    .obtain⟨av,bv,dL,hb,rfl,rfl,rfl,rfl,rfl,rfl⟩:=(Dv (.inl rfl)).1 hA;obtain⟨p,v,q,w,_,e⟩:=Qq g (a:=av) (b:=bv) aa hb hP;rw[e,qt,qq,qq,eY]
    obtain⟨av,bv,cv,dL,yj,hc,rfl,rfl,rfl,rfl,rfl,rfl⟩:=Jt.1 hA;have hP:nY F L av bv cv=some P:=hP;unfold nY at hP;split at hP
    .cases hP;rw[qt,eY]
    cases hP
   exact g.ne (akt aa)
  obtain⟨G,e1,g'⟩:=qG hX aH;have:F=G:=aa;subst this;exact g'
 have mk:∀(m:aS) (Q:c_),k5 m.k->di F (dO P) m.k m.a m.b m.c m.l m.o m.s=true->qh F (dO P) m.k m.a.toNat m.b.toNat m.c.toNat m.l m.o m.s=some Q->fg F (dO P) m=some (dO Q):=fun m Q hk hA hP=>by rw[Qn gX hk,aD hA,hP];rfl
 rcases hk with rfl|rfl
 .obtain⟨av,bv,dL,hb,rfl,rfl,rfl,rfl,rfl,rfl⟩:=(Dv (.inl rfl)).1 hA;obtain⟨a',b',Q,h1,h2,h3,h4⟩:=awd g dL hb hP hX;exact⟨Gh 3 a' b',_,rfl,mk (Gh 3 a' b') Q (.inr (.inl rfl)) ((Dv (.inl rfl)).2 ⟨a',b',h1,h2,rfl,rfl,rfl,rfl,rfl,rfl⟩) h3,h4⟩
 obtain⟨av,bv,cv,dL,yj,hc,rfl,rfl,rfl,rfl,rfl,rfl⟩:=Jt.1 hA;obtain⟨a',b',c',Q,h1,h2,h3,h4,h5⟩:=axb g dL yj hc hP hX;exact⟨mv3 8 a' b' c',_,rfl,mk (mv3 8 a' b' c') Q (.inr (.inr (.inr (.inr rfl)))) (Jt.2 ⟨a',b',c',h1,h2,h3,rfl,rfl,rfl,rfl,rfl,rfl⟩) h4,h5⟩
end
section
variable {F limit:Nat}
def YQ{L:ai}(h:cG (F:Int) L=0){m:aS}{X:ai}(hk:m.k=3\/m.k=8)(hm:fg F L m=some X):ch F L:=by
 by_cases aH:L=[]
 .subst aH;unfold fg at hm;rw[aD rfl]at hm;split at hm
  .rename_i hA;obtain⟨bv,k1,_⟩:=abe hA;omega
  cases hm
 obtain⟨G,e,g⟩:=qG h aH;have:F=G:=aa;subst this;exact g
def ahf{L:ai}(g:ch F L){m:aS}{X:ai}(hk:m.k=3\/m.k=8)(hm:fg F L m=some X):ch F X:=by have hX:=(Ds g (by unfold k5;omega) hm).1;obtain⟨m',Z,lO,hZ,_⟩:=ahg g hk hm;exact YQ hX (by rw[lO];exact hk) hZ
def clT(F:Nat)(T:x_):Prop:=∀(A X:ai) (m:aS),cG (F:Int) A=0->bh A∈T->m∈iX F A->fg F A m=some X->bh X∈T
def aty{T:x_}(hT:clT F T):∀ {w:g_}{L K:ai},cG (F:Int) L=0->rO F L w=some K->(∀x∈w,x.k∈Bq)->bh L∈T->bh K∈T:=by
 intro w
 induction w with
 |nil=>intro L K _ h _ hL;cases h;exact hL
 |cons m r ih=>
  intro L K hc h hk hL;have h:(match fg F L m with|none=>none|some K=>rO F K r)=some K:=h;have hm:m.k=3\/m.k=8:=by simpa using hk m af
  cases ha:fg F L m with
  |none=>rw[ha]at h;cases h
  |some X=>rw[ha]at h;have g:=YQ hc hm ha;exact ih (Ds g (by unfold k5;omega) ha).1 h (fun x hx=>hk x (by simp[hx])) (hT L X m hc hL (YO g hm ha) ha)
def atu{T:x_}(hT:clT F T):∀ {w:g_}{L K:ai},cG (F:Int) L=0->rO F L w=some K->(∀x∈w,x.k∈Bq)->bh K∈T->bh L∈T:=by
 intro w
 induction w with
 |nil=>intro L K _ h _ hL;cases h;exact hL
 |cons m r ih=>
  intro L K hc h hk hK;have h:(match fg F L m with|none=>none|some K=>rO F K r)=some K:=h;have hm:m.k=3\/m.k=8:=by simpa using hk m af
  cases ha:fg F L m with
  |none=>rw[ha]at h;cases h
  |some X=>
   rw[ha]at h;have g:=YQ hc hm ha;have hX:=(Ds g (by unfold k5;omega) ha).1;have gX:=ahf g hm ha;have h1:=ih hX h (fun x hx=>hk x (by simp[hx])) hK;obtain⟨m',Z,lO,hZ,hf⟩:=ahg g hm ha;have iU:m'.k=3\/m'.k=8:=by rw[lO];exact hm
   have h2:=hT X Z m' hX h1 (YO gX iU hZ) hZ;rw[W3 g hf.symm];exact h2
def akc{sb:Bool}(iC:1<=limit){L0:ai}(dz:∀x∈(dU sb F limit L0).2,uA F L0 (dU sb F limit L0).2.length x)(hw:(dU sb F limit L0).1=0):clT F ((dU sb F limit L0).2.map aX.n):=by
 have closed:=am1 iC dz hw;intro A X m hA hAT hm hX;obtain⟨x,hx,ex⟩:=cJ.1 hAT;have gx:=dz x hx;obtain⟨hk,gA,_⟩:=YN hA hm;have es:bh A=bh x.c:=by rw[<-ex,gx.qk]
 have gxf:=aei gA gx.chk es;obtain⟨m',Y,lO,hY,hf⟩:=avh gA gxf es hk hX;obtain⟨y,hy,ey⟩:=closed x hx m' (YO gxf (by rw[lO];exact hk) hY);rw[hY]at ey;have hYX:bh X=bh Y:=W3 (ahf gA hk hX) hf.symm;rw[hYX];exact cJ.2 ⟨y,hy,ey⟩
def Zd{X:ai}(hX:cG (F:Int) X=0):bh (bh X)=bh X:=by
 by_cases hX0:X=[]
 .subst hX0;rfl
 obtain⟨G,_,g⟩:=qG hX hX0;have:F=G:=aa;subst this;have tn:bh X≠[]:=fun e2=>by have:=ahJ g;rw[e2]at this;exact hX0 (GD.1 this.symm)
 obtain⟨G',_,g'⟩:=qG (wg g.chk) tn;have:F=G':=aa;subst this;exact W3 g' (adZ g.even g.qk.2.1)
def amW(cS:rm)(iC:1<=limit)(kK:limit<=20000){L0:ai}(h0:cG (F:Int) L0=0)(hw:(dU false F limit L0).1=0){y:aX}(hy:y∈(dU false F limit L0).2):(dU false F limit y.n).1=0/\((dU false F limit y.n).2.map aX.n).Nodup/\ ∀a,a∈(dU false F limit y.n).2.map aX.n↔a∈(dU false F limit L0).2.map aX.n:=by
 obtain⟨aH,dz⟩:=MQ cS iC kK h0;have hc:=akc (sb:=false) iC dz hw;have gy:=dz y hy;have hv:cG (F:Int) y.n=0:=by rw[gy.qk];exact wg gy.chk
 have hi:bh y.n=y.n:=by rw[gy.qk];exact Zd gy.chk
 have hT:ShT false F limit ((dU false F limit L0).2.map aX.n):=⟨hc,(fun h=>by cases h),by rw[cE];exact MR iC⟩;have jL:Dl F ((dU false F limit L0).2.map aX.n) [⟨y.n,bh y.n,[]⟩]:=⟨fun x hx=>by rw[lI.1 hx];exact⟨hv,rfl,by show bh y.n∈_;rw[hi];exact cJ.2 ⟨y,hy,rfl⟩⟩,af⟩
 obtain⟨w1,w2⟩:=amk hT (limit+1) 0 _ jL;have w1:(dU false F limit y.n).1=0:=w1;have w2:Dl F ((dU false F limit L0).2.map aX.n) (dU false F limit y.n).2:=w2;obtain⟨Ck,apE⟩:=MQ cS iC kK hv;have iv:=akc (sb:=false) iC apE w1;obtain⟨t,ht⟩:=Qv (sb:=false) (F:=F) (limit:=limit) (limit+1) 0 [⟨y.n,bh y.n,[]⟩];have ht:(dU false F limit y.n).2=[⟨y.n,bh y.n,[]⟩]++t:=ht;have hyT:bh y.n∈(dU false F limit y.n).2.map aX.n:=by rw[ht];simp
 have hL0:bh L0∈(dU false F limit y.n).2.map aX.n:=atu iv h0 gy.rep gy.kind (by rw[gy.qk.symm.trans hi.symm];exact hyT);refine⟨w1,w2.nd,fun a=>⟨fun h=>?_,fun h=>?_⟩⟩
 .obtain⟨x,hx,rfl⟩:=cJ.1 h;exact(w2.mem x hx).2.2
 obtain⟨x,hx,rfl⟩:=cJ.1 h;have gx:=dz x hx;rw[gx.qk];exact aty iv h0 gx.rep gx.kind hL0
end
section
variable {F limit:Nat} {L:ai}
end
section
variable {sb:Bool} {F limit:Nat}
end
def ahU:∀ {a b:d_},a.length=b.length-> ¬ik (a.zip b)<0-> ¬ik (b.zip a)<0->ik (a.zip b)=0:=by
 intro a
 induction a with
 |nil=>intro b _ _ _;rfl
 |cons x a ih=>
  intro b h1 h2 h3;cases b with
  |nil=>cases h1
  |cons y b=>
   simp only[List.zip_cons_cons,ik]at h2 h3 |-;by_cases e:x=y
   .subst e;rw[aD rfl]at h2 h3 |-;exact ih (by simpa using h1) h2 h3
   exfalso;rw[au e]at h2;rw[au (Ne.symm e)]at h3;by_cases h:x<y
   .rw[aD h]at h2;exact h2 ae
   rw[aD aa]at h3;exact h3 ae
def am3:∀ {A B:ai},A.length=B.length-> ¬tP A B<0-> ¬tP B A<0->tP A B=0:=by
 intro A
 induction A with
 |nil=>intro B _ _ _;cases B<;>rfl
 |cons a A ih=>
  intro B h1 h2 h3;cases B with
  |nil=>cases h1
  |cons b B=>
   unfold tP at h2 h3 |-;by_cases e:ik (tx a b)=0
   .have:=OX e;subst this;rw[aD e]at h2 h3 |-;exact ih (by simpa using h1) h2 h3
   have e':ik (tx b a)≠0:=fun h=>e (by rw[OX h];exact Ln (by unfold tx;simp));rw[au e]at h2;rw[au e']at h3;exact absurd (ahU (a:=kyL a) (b:=kyL b) rfl h2 h3) e
def am6{f:Int}{A B:ai}(h:¬qC f A f B<0)(k:¬qC f B f A<0):A=B:=by
 have hz:∀X Y:ai,lU f X f Y=(xt f X).zip (xt f Y):=fun _ _=>rfl;have e0:ik (lU f A f B)=0:=by
  by_cases e:ik (lU f A f B)=0
  .exact e
  by_cases e2:ik (lU f B f A)=0
  .refine absurd (Ln fun p hp=>?_) e;have e2:=IC e2;unfold lU at e2 hp;simp only[bJ,eo,or_false,forall_eq_or_imp,forall_eq]at e2 hp;rcases hp with rfl|rfl|rfl
   .rfl
   .exact e2.2.1.symm
   exact e2.2.2.symm
  unfold qC at h k;rw[au e]at h;rw[au e2]at k;rw[hz]at h k |-;exact ahU rfl h k
 have hl:A.length=B.length:=by have:=IC e0;unfold lU at this;simp only[bJ,eo,or_false,forall_eq_or_imp,forall_eq]at this;omega
 have e1:ik (lU f B f A)=0:=Ln fun p hp=>by
  have e2:=IC e0;unfold lU at e2 hp;simp only[bJ,eo,or_false,forall_eq_or_imp,forall_eq]at e2 hp;rcases hp with rfl|rfl|rfl
  .rfl
  .exact e2.2.1.symm
  exact e2.2.2.symm
 unfold qC at h k;rw[aD e0]at h;rw[aD e1]at k;exact abR hl (am3 hl h k)
section
variable {F limit:Nat}
def alh{a:aX}{st:j_}{m:aS}(h:∀x∈(jm false F limit a st m).2,(tD F x.c).2=false):jm true F limit a st m=jm false F limit a st m:=by
 unfold jm at h |-;split
 .rfl
 rename_i h1;rw[au h1]at h;split
 .rfl
 rename_i h2;rw[au h2]at h;have e:(tD F ((fg F a.c m).getD [])).2=false:=h _ (Dh _ (lI.2 rfl));rw[e];rfl
def ald{a:aX}:∀ {ms:g_}{st:j_},(∀x∈(gO false F limit a st ms).2,(tD F x.c).2=false)->gO true F limit a st ms=gO false F limit a st ms:=by
 intro ms
 induction ms with
 |nil=>intro st _;rfl
 |cons m r ih=>
  intro st h;have h0:∀x∈(jm false F limit a st m).2,(tD F x.c).2=false:=by
   rw[Dq]at h;by_cases hz:(jm false F limit a st m).1=0
   .rw[aD hz]at h;obtain⟨t,ht⟩:=Qi (sb:=false) (F:=F) (limit:=limit) a r (jm false F limit a st m).2;exact fun x hx=>h x (by rw[ht];exact Dg _ hx)
   rw[au hz]at h;exact h
  rw[Dq]at h;rw[Dq,Dq,alh h0];split
  .rename_i hz;rw[aD hz]at h;exact ih h
  rfl
def amj:∀(f i:Nat) (st:j_),(∀x∈(jS false F limit f i st).2,(tD F x.c).2=false)->jS true F limit f i st=jS false F limit f i st:=by
 intro f
 induction f with
 |zero=>intro i st _;rfl
 |succ f ih=>
  intro i st h;cases hs:st[i]? with
  |none=>rw[jS,jS,hs]
  |some a=>
   rw[JA hs]at h;have h0:∀x∈(gO false F limit a st (iX F a.c)).2,(tD F x.c).2=false:=by
    by_cases hz:(gO false F limit a st (iX F a.c)).1=0
    .rw[aD hz]at h;obtain⟨t,ht⟩:=Qv (sb:=false) (F:=F) (limit:=limit) f (i+1) (gO false F limit a st (iX F a.c)).2;exact fun x hx=>h x (by rw[ht];exact Dg _ hx)
    rw[au hz]at h;exact h
   rw[JA hs,JA hs,ald h0];split
   .rename_i hz;rw[aD hz]at h;exact ih _ _ h
   rfl
def ahi(cS:rm)(iC:1<=limit)(kK:limit<=20000){A:ai}(hA:cG (F:Int) A=0)(hw:(dU false F limit (bh A)).1=0)(hr:∀x∈(dU false F limit (bh A)).2,¬yI F x.n):∃X p,∃b:Nat,aK S 8 [ez F A,vi limit] (xv F (X,p,true))/\nX F ((dU false F limit (bh A)).2.map aX.n) (dU false F limit (bh A)).2.length=(b:Int)/\((dU false F limit (bh A)).2.map aX.n)[b]?=some X:=by
 have hN:=wg hA;obtain⟨aH,dz⟩:=MQ cS iC kK hN;have hc:∀x∈(dU false F limit (bh A)).2,¬yI F x.c:=fun x hx h=>by have g:=dz x hx;exact hr x hx (avj g.chk (by rw[g.qk];exact wg g.chk) (by rw[g.qk,Zd g.chk]) h)
 have e:dU true F limit (bh A)=dU false F limit (bh A):=amj (limit+1) 0 _ fun x hx=>(aiA (dz x hx).chk).2 (hc x hx);have h0:¬yI F (bh A):=by obtain⟨t,ht⟩:=Qv (sb:=false) (F:=F) (limit:=limit) (limit+1) 0 [⟨bh A,bh (bh A),[]⟩];have ht:(dU false F limit (bh A)).2=[⟨bh A,bh (bh A),[]⟩]++t:=ht;exact hc ⟨bh A,bh (bh A),[]⟩ (by rw[ht];simp)
 have hm:=asu cS iC kK hA (auI hN h0) (by rw[e,hw];decide);rw[e,hw]at hm;obtain⟨b,hb,jI⟩:=ami (F:=F) aH;exact⟨_,_,b,hm,hb,by rw[fG,jI];rfl⟩
def asn(cS:rm)(iC:1<=limit)(kK:limit<=20000){A:ai}(hA:cG (F:Int) A=0)(hw:(dU false F limit (bh A)).1=0)(hr:∀x∈(dU false F limit (bh A)).2,¬yI F x.n){y:aX}(hy:y∈(dU false F limit (bh A)).2):∃X p q,∃b:Nat,aK S 8 [ez F A,vi limit] (xv F (X,p,true))/\aK S 8 [ez F y.n,vi limit] (xv F (X,q,true))/\nX F ((dU false F limit (bh A)).2.map aX.n) ((dU false F limit (bh A)).2.map aX.n).length=(b:Int)/\((dU false F limit (bh A)).2.map aX.n)[b]?=some X:=by
 have hN:=wg hA;obtain⟨_,dz⟩:=MQ cS iC kK hN;have gy:=dz y hy;have hv:cG (F:Int) y.n=0:=by rw[gy.qk];exact wg gy.chk
 have hi:bh y.n=y.n:=by rw[gy.qk];exact Zd gy.chk
 obtain⟨c1,_,c3⟩:=amW cS iC kK hN hw hy;have uY:∀x∈(dU false F limit (bh y.n)).2,¬yI F x.n:=fun x hx=>by rw[hi]at hx;obtain⟨z,hz,e⟩:=cJ.1 ((c3 x.n).1 (cJ.2 ⟨x,hx,rfl⟩));rw[<-e];exact hr z hz
 obtain⟨X,p,b,p1,hb,Xz⟩:=ahi cS iC kK hA hw hr;obtain⟨Y,q,d,p2,hd,NQ⟩:=ahi cS iC kK hv (by rw[hi];exact c1) uY;rw[hi]at hd NQ;have key:∀ {l1 l2:x_}{X Y:ai}{d:Nat},(∀a,a∈l2->a∈l1)->nX F l1 l1.length=(d:Int)->l1[d]?=some X->Y∈l2-> ¬qC F Y F X<0:=by intro l1 l2 X Y d hs hd hX hY;obtain⟨j,hj⟩:=gV (hs Y hY);have k1:=asm (F:=F) (l:=l1) l1.length j (aT.1 hj).1;rw[hd,qu,dC,hj,dC,hX]at k1;exact k1
 rw[<-cE (f:=aX.n)]at hb hd;have hXY:Y=X:=am6 (key (fun a=>(c3 a).1) hb Xz (aV NQ)) (key (fun a=>(c3 a).2) hd NQ (aV Xz));subst hXY;exact⟨_,p,q,b,p1,p2,hb,Xz⟩
end
end Go.Abs
