/-
  EaseForms: for every code and every limit the call returns true and the arguments read as they did. It holds for every input that the row speaks of; the tables that the row lists hold what the text lays.
-/
import Derived.Test.YtfdblnecoamlbaaGreatDoorRh
import Derived.Test.YtfdblnecoamlbaaGreatDoorIa
import Derived.Test.YtfdblnecoamlbaaGreatDoorTie
import Derived.Deep.DeepHandedRow
import Derived.Deep.DeepLaidRun
import Derived.Stop.LaidErr
import Derived.Test.YtfdblnecoamlbaaGreatDoorSb
import Derived.Test.YtfdblnecoamlbaaGreatDoorTa
import Derived.Test.YtfdblnecoamlbaaGreatDoorFa
import Derived.Test.YtfdblnecoamlbaaGreatDoorGa
set_option linter.all false
set_option maxRecDepth 100000
set_option maxHeartbeats 16000000
namespace Go.Abs
section
variable{ls:ai}{F limit:Nat}{m:aP}
theorem aqi{f:Int}{n:Nat}(hl:ls.length<=1000000)(h1:1<=n)(h2:n<=20000):aK S 21 [dY f ls,vi n] (ri (bQ f ls)):=by
 have pc:=aaw f ls hl;have a1:¬((n:Int)<1):=aa;have a2:¬((20000:Int)<(n:Int)):=aa;generalize bQ f ls=e at*;refine bk c21 ?_;by_cases h:e=0
 .subst h;have Ml:((0:Int)!=0)=false:=ae;simp only[go_sem,i21,s28,eT pc,Ml,a1,a2];first|done|rfl
 have e1:(e !=0)=true:=by simpa using h
 simp only[go_sem,i21,s28,eT pc,e1];first|done|rfl
theorem EF(bN:ni){L0:ai}(hJ:1<=limit)(iE:limit<=20000)(h0:bQ (F:Int) L0=0):(dE F limit L0).2≠[]/\ ∀m∈(dE F limit L0).2,xr F L0 (dE F limit L0).2.length m:=by have h4:(fun i=>if i=384512000 then (1,some (.var [.p (.bool false)])) else (0,none):aB) 384512000=(1,some (.var [.p (.bool false)])):=aD rfl;generalize (fun i=>if i=384512000 then (1,some (.var [.p (.bool false)])) else (0,none):aB)=jE at h4;have uG:=ahf (F:=F) (limit:=limit) (cc:=.p (cT L0)) (r0:=[]) h4 fun n=>rfl;have hac:yq (allow (S.ctx .all) 23 [V.agg [.p (.int .i64 F),.p (cT L0)],vi limit,Lf 1] jE):=⟨fun id h=>vZ (by rw[h];kernel_rfl),aaD,aaB,aaC,tD (by rw[uG];simp)⟩;obtain⟨v,ao,_,hP⟩:=aay hac bN (F:=F) (limit:=limit) (L0:=L0) (gv:=1) (c0:=.p (cT L0)) (r0:=[]) (aj:=jE) hJ iE h0 (fun B hB=>rfl) qX.nil (fun i hi=>by cases hi) h4;obtain⟨s,g,_,_,_,_,aI,dQ,_⟩:=hP;exact⟨aI,dQ⟩
noncomputable def FP (F:Nat) (a:ai):Nat:=a.length+(if (nK F a).2 then 0 else 1)
theorem XV(bN:ni){a:ai}(hJ:1<=limit)(iE:limit<=20000)(ny:bQ (F:Int) a=0)(h2:(dE F limit (fQ F a).2).1=2):FP F (wR (dE F limit (fQ F a).2).2).c+1<=FP F a:=by
 obtain⟨Qk,_,_⟩:=K7 ny;obtain⟨aI,dQ⟩:=EF bN hJ iE Qk.chk;have hb:∃x,(dE F limit (fQ F a).2).2.getLast?=some x/\(nK F x.c).2=true:=akt h2;obtain⟨x,hx,hr⟩:=hb;have Nu:wR (dE F limit (fQ F a).2).2=x:=by unfold wR;rw[hx];rfl
 have hs:=(dQ _ (Oc aI).2).same;rw[Nu] at hs |-;obtain⟨k1,k2⟩:=asO ny;unfold FP;rw[hr];simp only[if_true];by_cases hd:(nK F a).2=true
 .have:=k2 hd;rw[aD hd];omega
 rw[ay hd];omega
theorem aji{al:Al}{Q:dO}{ak:Env}{aj:aB}{c:aN}(h:W S al c (Lj (fun e b=>W S al (.loop c) Q e b) Q) ak aj):W S al (.loop c) Q ak aj:=by
 obtain⟨n,e,aF,ao,h1,h2⟩:=h;cases e with
 |normal=>obtain⟨m,e,dz,bh,h3,h4⟩:=h2;refine⟨max n m+1,e,dz,bh,?_,h4⟩;have h5:=Ac S (mY (Gj n m) (Nat.le_succ _)) h1;have h6:=Ac S (II n m) h3;simp only[exec] at h6 |-;have h7:=QX S (Nat.le_succ (max n m)) (bR _) h6;rw[iter,h5];exact h7
 |exit i=>refine⟨n+1,_,_,_,?_,h2⟩;have h5:=Ac S (Nat.le_succ n) h1;simp only[exec,iter,h5]
 |ret=>refine⟨n+1,_,_,_,?_,h2⟩;have h5:=Ac S (Nat.le_succ n) h1;simp only[exec,iter,h5]
theorem XQ{f:Nat}{a:ai}{p:g_}(h:(dE F limit (fQ F a).2).1=2):zj F limit (f+1) a p=zj F limit f (wR (dE F limit (fQ F a).2).2).c (p++(fQ F a).1++(wR (dE F limit (fQ F a).2).2).w):=by rw[zj,aD h]
theorem Q6{f:Nat}{a:ai}{p:g_}(h:(dE F limit (fQ F a).2).1≠2):zj F limit (f+1) a p=((kO F (dE F limit (fQ F a).2).2).n,p++(fQ F a).1++(kO F (dE F limit (fQ F a).2).2).w,(dE F limit (fQ F a).2).1==0):=by rw[zj,ay h]
theorem rO.round(bN:ni){N a:ai}{b:Nat}{p:g_}(hJ:1<=limit)(iE:limit<=20000)(h:rO F N b a p){m:aY}(hm:m∈(dE F limit (fQ F a).2).2):rO F N (b+limit) m.c (p++(fQ F a).1++m.w)/\m.n=cN m.c:=by have hr:=h.red;obtain⟨aI,dQ⟩:=EF bN hJ iE hr.chk;have hg:=dQ m hm;exact⟨hr.mem (hg.mono (TG hJ)),hg.vK⟩
theorem aqC(bN:ni){N:ai}(hJ:1<=limit)(iE:limit<=20000):∀(f:Nat) {a:ai} {p:g_} {b:Nat},FP F a<f->rO F N b a p->∃K,rO F N (b+f*limit) K (zj F limit f a p).2.1/\(zj F limit f a p).1=cN K:=by
 intro f
 induction f with
 |zero=>intro a p b hm;omega
 |succ f ih=>
  intro a p b hm hP;by_cases h2:(dE F limit (fQ F a).2).1=2
  .rw[XQ h2];obtain⟨aI,dQ⟩:=EF bN hJ iE hP.red.chk;obtain⟨h3,_⟩:=hP.round bN hJ iE (Oc aI).2;have h4:=XV bN hJ iE hP.chk h2;obtain⟨K,k1,k2⟩:=ih aa h3;exact⟨K,by rw[show b+(f+1)*limit=b+limit+f*limit by rw[Nat.succ_mul];omega];exact k1,k2⟩
  rw[Q6 h2];obtain⟨aI,dQ⟩:=EF bN hJ iE hP.red.chk;obtain⟨h3,h4⟩:=hP.round bN hJ iE (aae (F:=F) aI);refine⟨_,⟨h3.chk,h3.rep,h3.kind,?_⟩,h4⟩;have h5:=h3.len;have h6:0<=f*limit:=bG _;rw[Nat.succ_mul];show(p++(fQ F a).1++(kO F (dE F limit (fQ F a).2).2).w).length+(kO F (dE F limit (fQ F a).2).2).c.length<=_;omega
theorem aqY(bN:ni){N:ai}(hJ:1<=limit)(iE:limit<=20000)(hN:N.length<=1000):∀(f:Nat) {a:ai} {p:g_} {b:Nat} {ak:Env} {aj:aB} {Q:dO},FP F a<f->rO F N b a p->b+f*limit<=40000000->MkH F limit a p ak aj->
  (∀(aF:Env) (ao:aB),(nj .all i6.results fun v aj=>jd aj v=some (KF F (zj F limit f a p))) .ret aF ao->Q .ret aF ao)->W S .all (.loop i6_l3) Q ak aj:=by
 intro f
 induction f with
 |zero=>intro a p b ak aj Q hm;omega
 |succ f ih=>
  intro a p b ak aj Q hm hP hb hI hQ;have bY:=hP.len;have hz:0<=f*limit:=bG _;rw[Nat.succ_mul] at hb;refine aji (aqZ bN hJ iE hP.chk aa hI (fun aF ao h2 Fa=>?_) fun aF ao h2 hr=>?_)
  .obtain⟨aI,dQ⟩:=EF bN hJ iE hP.red.chk;obtain⟨h3,_⟩:=hP.round bN hJ iE (Oc aI).2;have h4:=XV bN hJ iE hP.chk h2;exact ih aa h3 aa Fa fun aF ao h=>hQ _ _ (by rw[XQ h2];exact h)
  exact hQ _ _ (by rw[Q6 h2];exact hr)
theorem rO.start(h:bQ (F:Int) ls=0):rO F (cN ls) 0 (cN ls) []:=⟨FT h,rfl,(fun m hm=>by cases hm),af⟩
theorem XT(ls:ai):FP F (cN ls)<ls.length+2:=by have:=DN ls;unfold FP;split<;>omega
theorem aqD(bN:ni)(hJ:1<=limit)(iE:limit<=20000)(h:bQ (F:Int) ls=0):∃K,rO F (cN ls) ((ls.length+2)*limit) K (oI F limit ls).2.1/\(oI F limit ls).1=cN K:=by obtain⟨K,k1,k2⟩:=aqC bN hJ iE (ls.length+2) (XT ls) (rO.start h);rw[js] at k1;exact⟨K,k1,k2⟩
theorem af0(bN:ni)(hJ:1<=limit)(iE:limit<=20000)(h:bQ (F:Int) ls=0):aK S 6 [dY F ls,vi limit] (KF F (oI F limit ls)):=by
 have wH:=GF h;have pl:=aqi (f:=F) (ls:=ls) (n:=limit) aa hJ iE;rw[h] at pl;have pn:=KO bN (f:=F) (ls:=ls) aa h;have a3:(cO (iM ls)).norm=cT (cN ls):=GB (iM ls);have Ml:((0:Int)!=0)=false:=ae;generalize cO (iM ls)=q at*;refine bk c6 ?_;simp only[go_sem,i6,s21,eT pl,Ml,s7,de pn FM];have jZ:=DN ls;have hb:(ls.length+2)*limit<=402*20000:=Nat.mul_le_mul aa iE;refine aqY bN hJ iE aa (ls.length+2) (XT ls) (rO.start h) aa ⟨rfl,rfl,rfl,rfl,⟨.p (.int .i64 0),.p .nils,.p .nils,.p (.bool false),?_⟩,⟨q,?_,a3⟩,⟨.p .nils,?_,grown.nil⟩⟩ fun aF ao hr=>?_
 .simp only[go_sem]
 .simp only[go_sem]
 .simp only[go_sem]
 exact hr
theorem Wm{Q:dO}{ak:Env}{aj:aB}{os:h_}{d:w_}{f:Nat}{vs:e_}{s t1 z1:Nat}{es:s_}{x y w u:PV}(hp:aK S f vs (.tup [.agg [.p x,.p y,aU t1 z1 es,.p w],.one (.p u)]))(eF:S.lone s=false)
  (hK:∀(c:C) ao,grown (s+2) t1 z1 es (.one c) ao->(∀i,i≠s+2->ao i=aj i)->RN S .all os Q (put ak d (.tup [.agg [.p x,.p y,c,.p w],.one (.p u)])) ao):gP S .all (.pc f vs [] s) d os Q ak aj:=by
 obtain⟨h1,h2,_⟩:=sk (aj:=aj) (s:=s+2) (ty:=t1) (z:=z1) (es:=es);refine(de (v:=.tup [.agg [.p x,.p y,(dq aj (s+2) (aU t1 z1 es)).1,.p w],.one (.p u)]) (u:=(dq aj (s+2) (aU t1 z1 es)).2) hp ?_).2 (hK _ _ h1 h2);rw[eF,uT];unfold land;rw[aD (.inl rfl)];simp[jJ,gQ,ml,ir,jr,qQ,rI,mA,dq]
theorem akX{f:Int}(h:bQ f ls=0):∃F:Nat,f=(F:Int):=by
 by_cases aI:ls=[]
 .subst aI;unfold bQ at h;rw[ay ae] at h;by_cases hf:f<0\/40<f
  .rw[aD hf] at h;cases h
  exact tA (show 0<=f by omega)
 obtain⟨F,e,_⟩:=rj h aI;exact⟨F,e⟩
theorem akY:((List.range 41).all fun F=>(List.range (F+1)).all fun q=>bQ (F:Int) (EC q)==0)=true:=ah
theorem ak0{g:Nat}(hF:F<=40)(hg:g<=F):bQ (F:Int) (EC g)=0:=by have h:=gO.1 akY F (gV.2 aa);have h:=gO.1 h g (gV.2 aa);exact dk.1 h
theorem akW(h:bQ (F:Int) []=0):F<=40:=by
 unfold bQ at h;rw[ay ae] at h;by_cases hf:(F:Int)<0\/40<(F:Int)
 .rw[aD hf] at h;cases h
 omega
theorem ajH(h:bQ (F:Int) ls=0)(m:aP)(hk:k5 m.k):
  (∃L,ft F ls m=some L/\bQ (F:Int) L=0/\L.length<=ls.length+4/\aK S 30 [dY F ls,AS m] (jy F L))\/(ft F ls m=none/\ ∃e,e≠0/\aK S 30 [dY F ls,AS m] (nJ e)):=by
 by_cases aI:ls=[]
 .subst aI;have hF:=akW h;have pa:=ajI (F:=F) hF m.k m.a m.b m.c m.l m.o m.s;unfold Tg at pa;unfold ft;rw[aD rfl];by_cases hA:di F [] m.k m.a m.b m.c m.l m.o m.s=true
  .rw[aD hA] at pa |-;obtain⟨bv,_,_,e,hb,_⟩:=Tl hA;exact .inl ⟨_,rfl,ak0 hF aa,af,pa⟩
  rw[ay hA] at pa |-;exact .inr ⟨rfl,2,ae,pa⟩
 obtain⟨G,e,g⟩:=rj h aI;have:F=G:=aa;subst this;have pa:=Tk g hk m.a m.b m.c m.l m.o m.s;unfold ft;rw[ay aI];rcases LS g hk m.a m.b m.c m.l m.o m.s with ⟨e,he,h1⟩|⟨M,h1,h2,h3,L,h4,rfl⟩
 .rw[h1] at pa;refine .inr ⟨?_,e,he,pa⟩;unfold nU at h1;by_cases hA:di F ls m.k m.a m.b m.c m.l m.o m.s=true
  .rw[aD hA] at h1 |-;cases hM:qk F ls m.k m.a.toNat m.b.toNat m.c.toNat m.l m.o m.s with
   |none=>rfl
   |some M=>
    rw[hM] at h1;dsimp only;by_cases hc:(400:Int)<(ls.length:Int)+(gZ m.k).1\/(100:Int)<((aq Let.aA ls/2:Nat):Int)+(gZ m.k).2
    .rw[aD hc]
    have e2:sP F ls m.k (some M)=jy F (eL M):=ay hc;rw[e2] at h1;exact absurd h1 (YA he)
  rw[ay hA]
 rw[h1] at pa;refine .inl ⟨eL L,?_,h2,?_,pa⟩
 .rw[aD h3,h4];dsimp only;unfold nU at h1;rw[aD h3,h4] at h1;by_cases hc:(400:Int)<(ls.length:Int)+(gZ m.k).1\/(100:Int)<((aq Let.aA ls/2:Nat):Int)+(gZ m.k).2
  .have e2:sP F ls m.k (some L)=nJ 7:=aD hc;rw[e2] at h1;exact absurd h1.symm (YA ae)
  rw[ay hc]
 have:=af7 h4;rw[PX];omega
theorem ajz{ms:g_}(h:∀m∈ms,k5 m.k):ZU F ms:=fun _ m hm h1=>ajH h1 m (h m hm)
def F5(a:Nat)(b:UInt8):Nat:=10*a+(b.toNat-48)
def uq(b:UInt8):Prop:=48<=b.toNat/\b.toNat<=57
theorem Ll{n:Nat}(h:n<256):(UInt8.ofNat n).toNat=n:=by rw[UInt8.toNat_ofNat'];exact gY h
theorem alP:∀(k u:Nat) (acc:p_),u<10 ^ (k+1)->∃ds,sN (k+1) u acc=ds++acc/\ds≠[]/\(∀b∈ds,uq b)/\ds.foldl F5 0=u:=by
 intro k
 induction k with
 |zero=>
  intro u acc h;have hu:u<10:=by simpa using h
  refine⟨[UInt8.ofNat (48+u)],?_,af,fun b hb=>?_,?_⟩
  .unfold sN;have hb:Nat.blt u 10=true:=Nat.ble_eq_true_of_le hu;rw[hb];rfl
  .rw[k9.1 hb];unfold uq;rw[Ll aa];omega
  show F5 0 (UInt8.ofNat (48+u))=u;unfold F5;rw[Ll aa];omega
 |succ k ih=>
  intro u acc h;by_cases hu:u<10
  .refine⟨[UInt8.ofNat (48+u)],?_,af,fun b hb=>?_,?_⟩
   .unfold sN;have hb:Nat.blt u 10=true:=Nat.ble_eq_true_of_le hu;rw[hb];rfl
   .rw[k9.1 hb];unfold uq;rw[Ll aa];omega
   show F5 0 (UInt8.ofNat (48+u))=u;unfold F5;rw[Ll aa];omega
  have hq:u/10<10 ^ (k+1):=by have:10 ^ (k+1+1)=10 ^ (k+1)*10:=Nat.pow_succ ..;omega
  have hr:=dr u (show 0<10 by decide);obtain⟨ds,h1,h2,h3,h4⟩:=ih (u/10) (UInt8.ofNat (48+u%10)::acc) hq;refine⟨ds++[UInt8.ofNat (48+u%10)],?_,af,fun b hb=>?_,?_⟩
  .have hb:Nat.blt u 10=false:=by
    cases e:Nat.blt u 10 with
    |false=>rfl
    |true=>exact absurd (iA e) hu
   have e:sN (k+1+1) u acc=sN (k+1) (u/10) (UInt8.ofNat (48+u%10)::acc):=by rw[sN,hb];rfl
   rw[e,h1];simp
  .rcases eK.1 hb with hb|hb
   .exact h3 b hb
   rw[k9.1 hb];unfold uq;rw[Ll aa];omega
  rw[IF,h4];show F5 (u/10) (UInt8.ofNat (48+u%10))=u;unfold F5;rw[Ll aa];omega
def nb (n:Nat):p_:=sN 20 n []
theorem vI{n:Nat}(h:n<=1000000):(∀b∈nb n,uq b)/\(nb n).foldl F5 0=n:=by
 have hp:n<10 ^ (19+1):=Nat.lt_of_le_of_lt h ae;obtain⟨ds,h1,_,h3,h4⟩:=alP 19 n [] hp;have e:nb n=ds:=by unfold nb;rw[h1,jA]
 rw[e];exact⟨h3,h4⟩
theorem Xs(n:Nat):(lK (n:Int)).data.toList=nb n:=rfl
theorem Pt:∀ {x y:p_} {c d:UInt8} {r q:p_},(∀b∈x,uq b)->(∀b∈y,uq b)-> ¬uq c-> ¬uq d->x++c::r=y++d::q->x=y/\c=d/\r=q:=by
 intro x
 induction x with
 |nil=>
  intro y c d r q _ hy hc _ h;cases y with
  |nil=>cases h;exact⟨rfl,rfl,rfl⟩
  |cons b y=>exfalso;rw[fZ,mW] at h;exact hc ((IB h).1▸hy b af)
 |cons a x ih=>
  intro y c d r q hx hy hc hd h;cases y with
  |nil=>exfalso;rw[fZ,mW] at h;exact hd ((IB h).1▸hx a af)
  |cons b y=>rw[mW,mW] at h;obtain⟨e,h⟩:=IB h;obtain⟨h1,h2,h3⟩:=ih (fun b hb=>hx b (by simp[hb])) (fun b hb=>hy b (by simp[hb])) hc hd h;exact⟨by rw[e,h1],h2,h3⟩
def GX(l:Let):Prop:= ∃a b c:Nat,a<=1000000/\b<=1000000/\c<=1000000/\((l.kind=1/\l.gate=a/\l.aC=b/\l.id=0/\l.sign=0/\l.over=false)\/(l.kind=2/\l.gate=0/\l.aC=0/\l.id=c/\(l.sign=1\/l.sign= -1)))
theorem anl{L:ai}(g:cX F L):∀l∈L,GX l:=by
 intro l hl;have hc:=g.len;have hF:=g.fing;have hb:=g.bad l hl;rcases v7 hb with hp|hx
 .obtain⟨g0,g1,r0,r1⟩:=g.ok.ax.fy l hl hp;have:=sL (nV l.gate.toNat) L;obtain⟨⟨⟨_,hid⟩,hs⟩,ho⟩:=(sB hp).1 hb;simp only[cg] at r1;refine⟨l.gate.toNat,l.aC.toNat,0,aa,aa,aa,.inl ⟨dk.1 hp,aa,aa,hid,hs,ho⟩⟩
 obtain⟨i1,i2⟩:=g.ids.1 l hl hx;have:=sL Let.aA L;obtain⟨⟨h1,h2⟩,h3⟩:=(Om hx).1 hb;refine⟨0,0,l.id.toNat,aa,aa,aa,.inr ⟨dk.1 hx,h1,h2,aa,?_⟩⟩;by_cases e:l.sign=1
 .exact .inl e
 by_cases e2:l.sign= -1
 .exact .inr e2
 simp[e,e2] at h3
def wl (l:Let):p_:=(tz l).data.toList
theorem Jc(a b:ByteArray):(a++b).data.toList=a.data.toList++b.data.toList:=by rw[ByteArray.data_append,Array.toList_append]
theorem OV{l:Let}{a b:Nat}(h1:l.kind=1)(h2:l.gate=a)(h3:l.aC=b):wl l=nb a++46::nb b:=by unfold wl tz;rw[h1,h2,h3];show(lK (a:Int)++YC++lK (b:Int)).data.toList=_;rw[Jc,Jc,Xs,Xs];show nb a++[46]++nb b=_;simp
theorem OU{l:Let}{c:Nat}(h1:l.kind=2)(h2:l.id=c)(h3:l.sign=1\/l.sign= -1):wl l=nb c++(if l.over then 111 else 117)::(if l.sign=1 then [43] else [45]):=by unfold wl tz;rw[h1,h2];show((lK (c:Int)++(if l.over then sO else sU))++(if l.sign==1 then sPl else if l.sign== -1 then sMi else sQu)).data.toList=_;rw[Jc,Jc,Xs];rcases h3 with h|h<;>rw[h]<;>cases l.over<;>simp[sO,sU,sPl,sMi]
theorem nd:¬uq 46/\ ¬uq 111/\ ¬uq 117:=by unfold uq;decide
theorem avZ{x y:Let}(hx:GX x)(hy:GX y)(h:wl x=wl y):x=y:=by
 obtain⟨a,b,c,ha,hb,hc,hx⟩:=hx;obtain⟨a',b',c',MW,wB,jw,hy⟩:=hy;obtain⟨n1,n2,n3⟩:=nd;have ext:∀a b:Let,a.kind=b.kind->a.gate=b.gate->a.aC=b.aC->a.id=b.id->a.sign=b.sign->a.over=b.over->a=b:=fun a b=>by cases a;cases b;simp only[Let.mk.injEq];intros;simp_all
 have no:∀o:Bool,¬uq (if o then 111 else 117):=fun o=>by cases o<;>assumption
 have ne:∀o:Bool,(46:UInt8)≠(if o then 111 else 117):=fun o=>by cases o<;>decide
 rcases hx with ⟨x1,x2,x3,x4,x5,x6⟩|⟨x1,x2,x3,x4,x5⟩<;>rcases hy with ⟨y1,y2,y3,y4,y5,y6⟩|⟨y1,y2,y3,y4,y5⟩
 .rw[OV x1 x2 x3,OV y1 y2 y3] at h;obtain⟨e1,_,e2⟩:=Pt (vI ha).1 (vI MW).1 n1 n1 h;have e3:a=a':=by rw[<- (vI ha).2,<- (vI MW).2,e1]
  have e4:b=b':=by rw[<- (vI hb).2,<- (vI wB).2,e2]
  exact ext _ _ (by rw[x1,y1]) (by rw[x2,y2,e3]) (by rw[x3,y3,e4]) (by rw[x4,y4]) (by rw[x5,y5]) (by rw[x6,y6])
 .rw[OV x1 x2 x3,OU y1 y4 y5] at h;exact absurd (Pt (vI ha).1 (vI jw).1 n1 (no _) h).2.1 (ne _)
 .rw[OU x1 x4 x5,OV y1 y2 y3] at h;exact absurd (Pt (vI hc).1 (vI MW).1 (no _) n1 h).2.1.symm (ne _)
 rw[OU x1 x4 x5,OU y1 y4 y5] at h;obtain⟨e1,e2,e3⟩:=Pt (vI hc).1 (vI jw).1 (no _) (no _) h;have e4:c=c':=by rw[<- (vI hc).2,<- (vI jw).2,e1]
 refine ext _ _ (by rw[x1,y1]) (by rw[x2,y2]) (by rw[x3,y3]) (by rw[x4,y4,e4]) ?_ ?_
 .rcases x5 with s|s<;>rcases y5 with u|u<;>rw[s,u] at e3 |- <;>revert e3<;>decide
 revert e2;cases x.over<;>cases y.over<;>decide
theorem aiL{x:Let}(hx:GX x):∀b∈wl x,b≠32:=by
 obtain⟨a,b,c,ha,hb,hc,hx⟩:=hx;have aq7:¬uq 32:=by unfold uq;decide
 have dg:∀z,z<=1000000->∀q∈nb z,q≠32:=fun z hz q hq e=>aq7 (e▸(vI hz).1 q hq);rcases hx with ⟨x1,x2,x3,_⟩|⟨x1,_,_,x4,x5⟩
 .rw[OV x1 x2 x3];intro q hq;rcases eK.1 hq with h|h
  .exact dg a ha q h
  rcases cD.1 h with rfl|h
  .decide
  exact dg b hb q h
 rw[OU x1 x4 x5];intro q hq;rcases eK.1 hq with h|h
 .exact dg c hc q h
 rcases cD.1 h with rfl|h
 .cases x.over<;>decide
 split at h<;>(rw[k9.1 h];decide)
theorem auK:∀ {x y r q:p_},(∀b∈x,b≠32)->(∀b∈y,b≠32)->(r=[]\/ ∃t,r=32::t)->(q=[]\/ ∃t,q=32::t)->x++r=y++q->x=y/\r=q:=by
 intro x
 induction x with
 |nil=>
  intro y r q _ hy hr hq h;cases y with
  |nil=>exact⟨rfl,h⟩
  |cons b y=>
   exfalso;rw[fZ,mW] at h;rcases hr with rfl|⟨t,rfl⟩
   .cases h
   exact hy b af (IB h).1.symm
 |cons a x ih=>
  intro y r q hx hy hr hq h;cases y with
  |nil=>
   exfalso;rw[fZ,mW] at h;rcases hq with rfl|⟨t,rfl⟩
   .cases h
   exact hx a af (IB h).1
  |cons b y=>rw[mW,mW] at h;obtain⟨e,h⟩:=IB h;obtain⟨h1,h2⟩:=ih (fun b hb=>hx b (by simp[hb])) (fun b hb=>hy b (by simp[hb])) hr hq h;exact⟨by rw[e,h1],h2⟩
theorem av1:∀ {A B:ai},(∀l∈A,GX l)->(∀l∈B,GX l)->(A.flatMap fun l=>32::wl l)=(B.flatMap fun l=>32::wl l)->A=B:=by
 have tl:∀X:ai,(X.flatMap fun l=>32::wl l)=[]\/ ∃t,(X.flatMap fun l=>32::wl l)=32::t:=fun X=>by
  cases X with
  |nil=>exact .inl rfl
  |cons x X=>exact .inr ⟨_,by rw[LD,mW]⟩
 intro A
 induction A with
 |nil=>
  intro B _ _ h;cases B with
  |nil=>rfl
  |cons b B=>rw[LD,mW] at h;cases h
 |cons a A ih=>
  intro B hA hB h;cases B with
  |nil=>rw[LD,mW] at h;cases h
  |cons b B=>rw[LD,LD,mW,mW] at h;obtain⟨h1,h2⟩:=auK (aiL (hA a af)) (aiL (hB b af)) (tl A) (tl B) (IB h).2;rw[avZ (hA a af) (hB b af) h1,ih (fun l h=>hA l (by simp[h])) (fun l h=>hB l (by simp[h])) h2]
theorem ag5(F:Int)(L:ai):(pM F L).data.toList=(lK F++sCo).data.toList++L.flatMap fun l=>32::wl l:=by
 have key:∀(L:ai) (s:ByteArray),(L.foldl (fun s l=>s++(DX++tz l)) s).data.toList=s.data.toList++L.flatMap fun l=>32::wl l:=by
  intro L
  induction L with
  |nil=>intro s;simp
  |cons l L ih=>intro s;rw[Bc,ih,Jc,Jc,LD];show s.data.toList++([32]++wl l)++_=_;simp
 exact key L _
theorem asA{A B:ai}(hA:bQ (F:Int) A=0)(hB:bQ (F:Int) B=0)(h:pM (F:Int) A=pM (F:Int) B):A=B:=by
 have gl:∀X:ai,bQ (F:Int) X=0->∀l∈X,GX l:=fun X hX l hl=>by obtain⟨G,_,g⟩:=rj hX (List.ne_nil_of_mem hl);exact anl g l hl
 have h2:(pM (F:Int) A).data.toList=(pM (F:Int) B).data.toList:=by rw[h]
 rw[ag5,ag5] at h2;exact av1 (gl A hA) (gl B hB) (List.append_cancel_left h2)
theorem agC:∀ {a b c:d_},a.length=b.length->b.length=c.length->j7 (a.zip b)<0->j7 (b.zip c)<0->j7 (a.zip c)<0:=by
 intro a
 induction a with
 |nil=>intro b c _ _ h;exact absurd (show(0:Int)<0 from h) ae
 |cons x a ih=>
  intro b c h1 h2 h3 h4;cases b with
  |nil=>cases h1
  |cons y b=>
   cases c with
   |nil=>cases h2
   |cons z c=>
    simp only[List.zip_cons_cons,j7] at h3 h4 |-;by_cases e1:x=y
    .subst e1;rw[aD rfl] at h3;by_cases e2:x=z
     .subst e2;rw[aD rfl] at h4 |-;exact ih (by simpa using h1) (by simpa using h2) h3 h4
     rw[ay e2] at h4 |-;exact h4
    rw[ay e1] at h3;by_cases e2:y=z
    .subst e2;rw[ay e1];exact h3
    rw[ay e2] at h4;have k1:x<y:=by
     by_cases h:x<y
     .exact h
     rw[ay h] at h3;cases h3
    have k2:y<z:=by
     by_cases h:y<z
     .exact h
     rw[ay h] at h4;cases h4
    rw[ay aa,aD aa];decide
def kyL(l:Let):d_:=[l.kind,l.gate,l.aC,l.id,if l.over then 1 else 0,l.sign]
def zg(f:Int)(A:ai):d_:=[f,((aq Let.aA A:Nat):Int),(A.length:Int)]
theorem ala:∀ {A B C:ai},A.length=B.length->B.length=C.length->xw A B<0->xw B C<0->xw A C<0:=by
 intro A
 induction A with
 |nil=>
  intro B C _ _ h;have:xw ([]:ai) B=0:=by cases B<;>rfl
  rw[this] at h;omega
 |cons a A ih=>
  intro B C h1 h2 h3 h4;cases B with
  |nil=>cases h1
  |cons b B=>
   cases C with
   |nil=>cases h2
   |cons c C=>
    unfold xw at h3 h4 |-;by_cases e1:j7 (vG a b)=0
    .have:=XF e1;subst this;rw[aD e1] at h3;by_cases e2:j7 (vG a c)=0
     .rw[aD e2] at h4 |-;exact ih (by simpa using h1) (by simpa using h2) h3 h4
     rw[ay e2] at h4 |-;exact h4
    rw[ay e1] at h3;by_cases e2:j7 (vG b c)=0
    .have:=XF e2;subst this;rw[ay e1];exact h3
    rw[ay e2] at h4;have k:j7 (vG a c)<0:=agC (a:=kyL a) (b:=kyL b) (c:=kyL c) rfl rfl h3 h4;rw[ay aa];exact k
theorem alb{f:Int}{A B C:ai}(h:sJ f A f B<0)(k:sJ f B f C<0):sJ f A f C<0:=by
 have hd:∀ {X Y:ai},j7 (ru f X f Y)=0->zg f X=zg f Y:=fun h=>by have h:=Rn h;unfold ru at h;simp only[cD,fq,or_false,forall_eq_or_imp,forall_eq] at h;unfold zg;rw[h.2.1,h.2.2]
 have hz:∀X Y:ai,ru f X f Y=(zg f X).zip (zg f Y):=fun _ _=>rfl;have ln:∀ {X Y:ai},zg f X=zg f Y->X.length=Y.length:=fun h=>by unfold zg at h;simp only[yh,and_true] at h;omega
 unfold sJ at h k |-;by_cases e1:j7 (ru f A f B)=0<;>by_cases e2:j7 (ru f B f C)=0
 .rw[aD e1] at h;rw[aD e2] at k;have a1:=hd e1;have a2:=hd e2;rw[hz,a1,a2,aD (Yb (by unfold zg;simp))];exact ala (ln a1) (ln a2) h k
 .rw[ay e2] at k;have a1:=hd e1;have:ru f A f C=ru f B f C:=by rw[hz,hz,a1]
  rw[this,ay e2];exact k
 .rw[ay e1] at h;have a2:=hd e2;have:ru f A f C=ru f A f B:=by rw[hz,hz,a2]
  rw[this,ay e1];exact h
 rw[ay e1] at h;rw[ay e2] at k;have:=agC (a:=zg f A) (b:=zg f B) (c:=zg f C) rfl rfl h k;rw[<- hz] at this;rw[ay aa];exact this
theorem aaE(f:Int)(A:ai):¬sJ f A f A<0:=by rw[alc.2 ⟨rfl,rfl⟩];decide
theorem aqs{l:x_}:∀k,∀j,j<k-> ¬sJ F (l.getD j []) F (l.getD (qj F l k).toNat [])<0:=by
 intro k
 induction k with
 |zero=>intro j h;omega
 |succ k ih=>
  intro j hj;unfold qj;by_cases h0:qj F l k<0
  .rw[aD h0];have hk:k=0:=by rcases Og F l k with ⟨h,_⟩|⟨h,_⟩<;>omega
   subst hk;have:j=0:=aa;subst this;exact aaE _ _
  rw[ay h0];by_cases h1:sJ F (l.getD k []) F (l.getD (qj F l k).toNat [])<0
  .rw[aD h1];by_cases e:j=k
   .subst e;exact aaE _ _
   intro h2;exact ih j aa (alb h2 h1)
  rw[ay h1];by_cases e:j=k
  .subst e;exact h1
  exact ih j aa
theorem aqt{l:x_}(h:∀j,j<l.length-> ¬sJ F (l.getD j []) F (l.getD 0 [])<0):∀k,k<l.length->qj F l (k+1)=0:=by
 intro k
 induction k with
 |zero=>intro _;rfl
 |succ k ih=>intro hk;have e:=ih aa;rw[qj,e,ay ae];exact ay (h (k+1) hk)
theorem aqz:∀ {A B:g_},mP A=mP B->A=B:=by
 intro A
 induction A with
 |nil=>intro B h;cases B with
  |nil=>rfl
  |cons b B=>cases h
 |cons a A ih=>
  intro B h;cases B with
  |nil=>cases h
  |cons b B=>
   have h:aP.ps a::mP A=aP.ps b::mP B:=h;obtain⟨h1,h2⟩:=IB h;rw[ih h2];cases a;cases b;unfold aP.ps at h1;simp only[yh,PV.int.injEq,PV.bool.injEq,true_and,and_true] at h1;simp only[yh,aP.mk.injEq,and_true]
   simp_all
theorem anI{A B:g_}(h:(RV.tup [.one (aU fO 7 (mP A)),.one (.p (.int .i64 0))])=.tup [.one (aU fO 7 (mP B)),.one (.p (.int .i64 0))]):A=B:=by
 simp only[RV.tup.injEq,yh,RV.one.injEq,and_true] at h;apply aqz;unfold aU at h;by_cases a:mP A=[]<;>by_cases b:mP B=[]
 .rw[a,b]
 .rw[aD a,ay b] at h;cases h
 .rw[ay a,aD b] at h;cases h
 rw[ay a,ay b] at h;simp only[RC.own.injEq] at h;exact h.2.2
section
variable {F:Nat} {L:ai}
theorem aaW{pl a b:Nat}{kk:Int}{ns:g_}(ef:a<b)(h:lk F L pl [a,b] a=true)(hs:∀j,j<2->kK kk a (lU F L (2*a+j)).cq ns)(h8:kk≠8):mv2 kk a b∈ns:=by
 have key:∀f:Fc,we f pl [a,b]=true->kK kk a f.cq ns->mv2 kk a b∈ns:=fun f hf hs=>by
  unfold we at hf;simp only[cU,dk,gO] at hf;obtain⟨h1,_,h3⟩:=hf;have ex:∀e∈[a,b],∃d∈f.cq,d/2=e:=fun e he=>by have h4:=h3 e he;unfold vj at h4;obtain⟨d,hd,pV⟩:=zH.1 (show 0<f.cq.countP fun d=>d/2==e by omega);exact⟨d,hd,dk.1 pV⟩
  exact hs.1 h8 b ef h1 (ex a af) (ex b af)
 unfold lk at h;rw[vT] at h;rcases h with h|h
 .exact key _ h (hs 0 ae)
 exact key _ h (hs 1 ae)
theorem alr{pl a b c:Nat}{ns:g_}(ef:a<b)(xH:b<c)(h:lk F L pl [a,b,c] a=true)(hs:∀j,j<2->kK 8 a (lU F L (2*a+j)).cq ns):mv3 8 a b c∈ns:=by
 have key:∀f:Fc,we f pl [a,b,c]=true->kK 8 a f.cq ns->mv3 8 a b c∈ns:=fun f hf hs=>by
  unfold we at hf;simp only[cU,dk,gO] at hf;obtain⟨h1,_,h3⟩:=hf;have ex:∀e∈[a,b,c],∃d∈f.cq,d/2=e:=fun e he=>by have h4:=h3 e he;unfold vj at h4;obtain⟨d,hd,pV⟩:=zH.1 (show 0<f.cq.countP fun d=>d/2==e by omega);exact⟨d,hd,dk.1 pV⟩
  exact hs.2 rfl b c ef xH h1 (ex a af) (ex b af) (ex c af)
 unfold lk at h;rw[vT] at h;rcases h with h|h
 .exact key _ h (hs 0 ae)
 exact key _ h (hs 1 ae)
theorem akK(g:cX F L){X:ai}(hk:k5 m.k)(h:ft F L m=some X){ns:g_}(hc:CP F L m.k ns):m∈ns:=by
 obtain⟨k,a,b,c,l,o,sg⟩:=m;obtain⟨_,hA,P,hP,_⟩:=IW g hk h;simp only at hA hP hc;have hk:k5 k:=hk;unfold k5 at hk;rcases hk with rfl|rfl|rfl|rfl|rfl
 .obtain⟨av,ha,rfl,rfl,rfl,rfl,rfl,rfl⟩:=(IX (.inl rfl)).1 hA;exact hc.1 (.inl rfl) av ha
 .obtain⟨av,bv,ef,hb,rfl,rfl,rfl,rfl,rfl,rfl⟩:=(IY (.inl rfl)).1 hA;have hP:rS F L av bv=some P:=hP;obtain⟨p,v,q,w,c3,_⟩:=Z3 g aa hb hP;exact aaW ef c3.cor (hc.2 (.inl rfl) av aa) ae
 .obtain⟨av,ha,rfl,rfl,rfl,rfl,rfl,rfl⟩:=(IX (.inr rfl)).1 hA;exact hc.1 (.inr rfl) av ha
 .obtain⟨av,bv,ef,hb,rfl,rfl,rfl,rfl,rfl,rfl⟩:=(IY (.inr rfl)).1 hA;have hP:uS F L av bv=some P:=hP;have c6:=Rx.1 (show(uS F L av bv).isSome=true by rw[hP];rfl);exact aaW ef c6.cor (hc.2 (.inr (.inl rfl)) av aa) ae
 obtain⟨av,bv,cv,ef,xH,bN,rfl,rfl,rfl,rfl,rfl,rfl⟩:=Tm.1 hA;have hP:tx F L av bv cv=some P:=hP;unfold tx at hP;split at hP
 case isFalse=>cases hP
 rename_i ht;unfold tgB at ht;simp only[cU] at ht;exact alr ef xH ht.2.2.2.2.2 (hc.2 (.inr (.inr rfl)) av aa)
theorem ajB(g:cX F L){X:ai}(hk:k5 m.k)(h:ft F L m=some X):nU F L m.k m.a m.b m.c m.l m.o m.s=jy F X:=by
 obtain⟨_,hA,P,hP,rfl⟩:=IW g hk h;have hg:gZ m.k=(0,0):=by unfold k5 at hk;rcases hk with h|h|h|h|h<;>rw[h]<;>rfl
 have k1:=g.len;have k2:=g.cr;unfold nU;rw[aD hA,hP];exact ay (by rw[hg];dsimp only;omega)
theorem ZB(g:cX F L){want:d_}(j5:want.length<=10)(hw:∀k∈want,tW k){ms:g_}(hs:aK S 10 [dY F L,.one (.p (.sl (iP want)))] (.tup [.one (aU fO 7 (mP ms)),.one (.p (.int .i64 0))])){X:ai}(hm:m.k∈want)(h:ft F L m=some X):m∈ms:=by obtain⟨Oj,⟨_,_,hc⟩,hs'⟩:=ai1 g want j5 hw;rw[anI (aK.zZ hs hs')];have hk:k5 m.k:=hw _ hm;obtain⟨ns,h1,h2⟩:=hc m.k hm (by unfold k5 at hk;omega) (by unfold k5 at hk;omega);exact h2 m (akK g hk h h1) ⟨X,ajB g hk h⟩
theorem agz(h:bQ (F:Int) L=0){want:d_}(hw:∀k∈want,tW k)(hm:qO F L want m):m.k∈want/\cX F L/\ ∃X,ft F L m=some X/\bQ (F:Int) X=0:=by
 obtain⟨h1,⟨a,ha,_⟩,X,hX⟩:=hm;have aI:L≠[]:=fun e=>by rw[e] at ha;simp at ha
 obtain⟨G,e,g⟩:=rj h aI;have:F=G:=aa;subst this;have h2:=Ti aI hX;exact⟨h1,g,X,h2,(IW g (hw _ h1) h2).1⟩
def zt(F:Nat)(L:ai):Prop:= ∃m X,(m.k=1\/m.k=4\/m.k=6)/\ft F L m=some X
theorem ahg(h:bQ (F:Int) L=0)(hr:zt F L):cX F L:=by
 obtain⟨m,X,hk,hm⟩:=hr;by_cases aI:L=[]
 .subst aI;unfold ft at hm;rw[aD rfl] at hm;split at hm
  .rename_i hA;obtain⟨bv,k1,_⟩:=Tl hA;omega
  cases hm
 obtain⟨G,e,g⟩:=rj h aI;have:F=G:=aa;subst this;exact g
theorem Re(h:bQ (F:Int) L=0):HZ F L↔ ¬zt F L:=by
 constructor
 .intro hn hr;have g:=ahg h hr;obtain⟨m,X,hk,hm⟩:=hr;have:=ZB g (want:=vM) ae R6 (ms:=[]) hn (show m.k∈vM by simp;omega) hm;cases this
 intro hr;obtain⟨ms,⟨_,au⟩,hs⟩:=SU h vM ae R6;cases ms with
 |nil=>exact hs
 |cons m ms=>exfalso;obtain⟨h1,_,X,h2,_⟩:=agz h R6 (au m af);exact hr ⟨m,X,by simpa using h1,h2⟩
theorem Yr(h:bQ (F:Int) L=0):(nK F L).2=false↔ ¬zt F L:=by
 obtain⟨_,h2,h3⟩:=Yq h;constructor
 .intro hf;exact(Re h).1 (h3 hf)
 intro hr;cases hb:(nK F L).2 with
 |false=>rfl
 |true=>exact absurd ((Re h).2 hr) (h2 hb).2
end
theorem ags{A:ai}(g:cX F A):(cN A).length=A.length:=(acI g.even g.vK.2.1).1
theorem ac1{A B:ai}(gA:cX F A)(hB:bQ (F:Int) B=0)(h:cN A=cN B):cX F B:=by
 have aI:B≠[]:=fun e=>by have h1:=ags gA;rw[h,e] at h1;have h2:=jl.2 gA.ne;have h3:(cN ([]:ai)).length=0:=rfl;omega
 obtain⟨G,e,g⟩:=rj hB aI;have:F=G:=aa;subst this;exact g
theorem ahA{A B:ai}(hA:bQ (F:Int) A=0)(hB:bQ (F:Int) B=0)(h:cN A=cN B)(hr:zt F A):zt F B:=by have gA:=ahg hA hr;have gB:=ac1 gA hB h;exact(ag3 gB).1 (atr gA gB h ((ag3 gA).2 hr))
theorem acJ{A B:ai}(hA:cX F A)(h:nZ A B):cN A=cN B:=by unfold cN;rw[ara hA.even h]
theorem XO{L:ai}(h:bQ (F:Int) L=0)(hm:m∈jc F L):(m.k=3\/m.k=8)/\cX F L/\ ∃X,ft F L m=some X/\bQ (F:Int) X=0:=by obtain⟨⟨_,au⟩,_⟩:=XN h;obtain⟨h1,h2,h3⟩:=agz h XP (au m hm);exact⟨by simpa using h1,h2,h3⟩
theorem aqu{L:ai}(g:cX F L){X:ai}(hk:m.k=3\/m.k=8)(h:ft F L m=some X):m∈jc F L:=by obtain⟨_,hs⟩:=XN g.chk;exact ZB g ae XP hs (show m.k∈DM by simp;omega) h
theorem Tq{a b:ByteArray}:(a==b)=true↔a=b:=by
 cases a with|mk x=>cases b with|mk y=>
 show(x==y)=true↔_;rw[dk,ByteArray.mk.injEq]
section
variable {F limit:Nat}
def Cb(F:Nat)(st:j_)(M:ai):Prop:=(st.map (aY.key F)).any (fun s=>pM (F:Int) (cN M)==s)=true
theorem Cb.app{st:j_}{M:ai}(h:Cb F st M)(t:j_):Cb F (st++t) M:=by unfold Cb at h |-;rw[kZ,List.any_append,h,Bool.true_or]
theorem Cb.mem{st:j_}{M:ai}(h:Cb F st M):∃y∈st,pM (F:Int) (cN M)=pM (F:Int) y.n:=by obtain⟨s,hs,e⟩:=zE.1 h;obtain⟨y,hy,rfl⟩:=dh.1 hs;exact⟨y,hy,Tq.1 e⟩
theorem ZQ(a:aY)(st:j_)(m:aP):∃t,(jD F limit a st m).2=st++t:=by
 unfold jD;split
 .exact⟨[],af⟩
 split
 .exact⟨[],af⟩
 exact⟨_,rfl⟩
theorem ajq{a:aY}{st:j_}(h:(jD F limit a st m).1=0):Cb F (jD F limit a st m).2 ((ft F a.c m).getD []):=by
 unfold jD at h |-;split
 .rename_i h1;exact h1
 rename_i h1;rw[ay h1] at h;split
 .rename_i h2;rw[aD h2] at h;cases h
 unfold Cb;rw[kZ,List.any_append,vT];refine .inr (zE.2 ⟨_,dh.2 ⟨_,k9.2 rfl,rfl⟩,Tq.2 rfl⟩)
theorem S5(a:aY):∀(ms:g_) (st:j_),∃t,(gD F limit a st ms).2=st++t:=by
 intro ms
 induction ms with
 |nil=>intro st;exact⟨[],by rw[jA];rfl⟩
 |cons m r ih=>
  intro st;rw[Gq];obtain⟨t,ht⟩:=ZQ (F:=F) (limit:=limit) a st m;split
  .obtain⟨u,hu⟩:=ih (jD F limit a st m).2;exact⟨t++u,by rw[hu,ht,vU]⟩
  exact⟨t,ht⟩
theorem ajm{a:aY}:∀ {ms:g_} {st:j_},(gD F limit a st ms).1=0->∀m∈ms,Cb F (gD F limit a st ms).2 ((ft F a.c m).getD []):=by
 intro ms
 induction ms with
 |nil=>intro st _ m hm;cases hm
 |cons m r ih=>
  intro st h x hx;rw[Gq] at h |-;by_cases h1:(jD F limit a st m).1=0
  .rw[aD h1] at h |-;rcases cD.1 hx with rfl|hx
   .obtain⟨u,hu⟩:=S5 (F:=F) (limit:=limit) a r (jD F limit a st x).2;rw[hu];exact(ajq h1).app u
   exact ih h x hx
  rw[ay h1] at h;exact absurd h h1
theorem aaf:∀(f i:Nat) (st:j_),∃t,(iR F limit f i st).2=st++t:=by
 intro f
 induction f with
 |zero=>intro i st;exact⟨[],by rw[jA];rfl⟩
 |succ f ih=>
  intro i st;unfold iR;split
  .exact⟨[],by rw[jA]⟩
  rename_i a _;obtain⟨t,ht⟩:=S5 (F:=F) (limit:=limit) a (jc F a.c) st;split
  .obtain⟨u,hu⟩:=ih (i+1) (gD F limit a st (jc F a.c)).2;exact⟨t++u,by rw[hu,ht,vU]⟩
  exact⟨t,ht⟩
theorem akr:∀(f i:Nat) (st:j_),limit+1<=f+i->st.length<=limit->(iR F limit f i st).1=0->∀j x,i<=j->(iR F limit f i st).2[j]?=some x->∀m∈jc F x.c,Cb F (iR F limit f i st).2 ((ft F x.c m).getD []):=by
 intro f
 induction f with
 |zero=>intro i st h1 h2 _ j x hj hx;have hx:st[j]?=some x:=hx;have:=(aT.1 hx).1;omega
 |succ f ih=>
  intro i st h1 h2 h3 j x hj hx m hm;cases hs:st[i]? with
  |none=>
   have e:iR F limit (f+1) i st=(0,st):=by rw[iR,hs]
   rw[e] at hx;have hx:st[j]?=some x:=hx;have:=(aT.1 hx).1;have:=List.getElem?_eq_none_iff.1 hs;omega
  |some a=>
   by_cases ha:(gD F limit a st (jc F a.c)).1=0
   .have e:iR F limit (f+1) i st=iR F limit f (i+1) (gD F limit a st (jc F a.c)).2:=by rw[iR,hs];exact aD ha
    rw[e] at h3 hx |-;by_cases e2:j=i
    .subst e2;obtain⟨t,ht⟩:=S5 (F:=F) (limit:=limit) a (jc F a.c) st;obtain⟨u,hu⟩:=aaf (F:=F) (limit:=limit) f (j+1) (gD F limit a st (jc F a.c)).2;have aw:=(aT.1 hs).1;have h5:(iR F limit f (j+1) (gD F limit a st (jc F a.c)).2).2[j]?=some a:=by
      rw[hu,ht,vU,xh aw];exact hs
     rw[h5] at hx;cases hx;rw[hu];exact(ajm ha m hm).app u
    exact ih (i+1) _ aa (S4 h2) h3 j x aa hx m hm
   have e:iR F limit (f+1) i st=gD F limit a st (jc F a.c):=by rw[iR,hs];exact ay ha
   rw[e] at h3;exact absurd h3 ha
theorem ak7(bN:ni)(hJ:1<=limit)(iE:limit<=20000){L0:ai}(h0:bQ (F:Int) L0=0)(h:(dE F limit L0).1=0):∀x∈(dE F limit L0).2,∀m∈jc F x.c,∃y∈(dE F limit L0).2,y.n=cN ((ft F x.c m).getD []):=by intro x hx m hm;obtain⟨_,dQ⟩:=EF bN hJ iE h0;obtain⟨j,hj⟩:=iJ hx;have:=akr (F:=F) (limit:=limit) (limit+1) 0 [⟨L0,cN L0,[]⟩] aa hJ h j x (bG _) hj m hm;obtain⟨y,hy,e⟩:=this.mem;obtain⟨_,_,X,hX,Hg⟩:=XO (dQ x hx).chk hm;refine⟨y,hy,?_⟩;have gy:=dQ y hy;rw[hX] at e |-;have e:pM (F:Int) (cN X)=pM (F:Int) y.n:=e;rw[gy.vK] at e |-;exact(asA (FT Hg) (FT gy.chk) e).symm
theorem ZP{a:aY}{st:j_}(h:∀x∈st,(nK F x.c).2=false)(h2:(jD F limit a st m).1≠2):∀x∈(jD F limit a st m).2,(nK F x.c).2=false:=by
 unfold jD at h2 |-;split
 .exact h
 rename_i h1;rw[ay h1] at h2;split
 .exact h
 rename_i h3;rw[ay h3] at h2;intro x hx;rcases eK.1 hx with hx|hx
 .exact h x hx
 rw[k9.1 hx];cases hb:(nK F ((ft F a.c m).getD [])).2 with
 |false=>rfl
 |true=>rw[hb] at h2;exact absurd rfl h2
theorem ZM{a:aY}:∀ {ms:g_} {st:j_},(∀x∈st,(nK F x.c).2=false)->(gD F limit a st ms).1≠2->∀x∈(gD F limit a st ms).2,(nK F x.c).2=false:=by
 intro ms
 induction ms with
 |nil=>intro st h _;exact h
 |cons m r ih=>
  intro st h h2;rw[Gq] at h2 |-;by_cases h1:(jD F limit a st m).1=0
  .rw[aD h1] at h2 |-;exact ih (ZP h (by rw[h1];decide)) h2
  rw[ay h1] at h2 |-;exact ZP h h2
theorem aks:∀(f i:Nat) (st:j_),(∀x∈st,(nK F x.c).2=false)->(iR F limit f i st).1≠2->∀x∈(iR F limit f i st).2,(nK F x.c).2=false:=by
 intro f
 induction f with
 |zero=>intro i st h _;exact h
 |succ f ih=>
  intro i st h h2;cases hs:st[i]? with
  |none=>
   have e:iR F limit (f+1) i st=(0,st):=by rw[iR,hs]
   rw[e];exact h
  |some a=>
   by_cases ha:(gD F limit a st (jc F a.c)).1=0
   .have e:iR F limit (f+1) i st=iR F limit f (i+1) (gD F limit a st (jc F a.c)).2:=by rw[iR,hs];exact aD ha
    rw[e] at h2 |-;exact ih _ _ (ZM h (by rw[ha];decide)) h2
   have e:iR F limit (f+1) i st=gD F limit a st (jc F a.c):=by rw[iR,hs];exact ay ha
   rw[e] at h2 |-;exact ZM h h2
theorem au2:∀(L M:x_),L.Nodup->(∀x∈L,x∈M)->L.length<=M.length:=by
 intro L
 induction L with
 |nil=>intro M _ _;exact bG _
 |cons x L ih=>intro M hn hs;obtain⟨h1,h2⟩:=qU.1 hn;have hx:=hs x af;have:=ih (M.erase x) h2 fun y hy=>(List.mem_erase_of_ne (fun e:y=x=>h1 (by rw[<- e];exact hy))).2 (hs y (by simp[hy]));rw[SN hx] at this;have:=LH hx;simp only[dC];omega
structure ShT (F limit:Nat) (T:x_):Prop where
 cl:∀(A X:ai) (m:aP),bQ (F:Int) A=0->cN A∈T->m∈jc F A->ft F A m=some X->cN X∈T
 nr:∀A:ai,bQ (F:Int) A=0->cN A∈T-> ¬zt F A
 len:T.length<=limit
structure CB (F:Nat) (T:x_) (st:j_):Prop where
 mem:∀y∈st,bQ (F:Int) y.c=0/\y.n=cN y.c/\y.n∈T
 nd:(st.map aY.n).Nodup
theorem ajp{T:x_}(hT:ShT F limit T){a:aY}{st:j_}(h:CB F T st)(ha:a∈st)(hm:m∈jc F a.c):(jD F limit a st m).1=0/\CB F T (jD F limit a st m).2:=by
 obtain⟨ca,na,ta⟩:=h.mem a ha;obtain⟨_,_,X,hX,Hg⟩:=XO ca hm;have hXT:cN X∈T:=hT.cl a.c X m ca (na▸ta) hm hX;unfold jD;rw[hX];show(if _ then _ else if _ then _ else ((if (nK F X).2=true then 2 else 0,st++[(⟨X,cN X,a.w++[m]⟩:aY)]):Nat×j_)).1=0/\CB F T (if _ then _ else if _ then _ else ((if (nK F X).2=true then 2 else 0,st++[(⟨X,cN X,a.w++[m]⟩:aY)]):Nat×j_)).2;by_cases hk:(st.map (aY.key F)).any (fun s=>pM (F:Int) (cN X)==s)=true
 .have e:(if (List.map (aY.key F) st).any (fun s=>pM (F:Int) (cN X)==s)=true then ((0,st):Nat×j_) else if st.length=limit then (1,st) else (if (nK F X).2=true then 2 else 0,st++[(⟨X,cN X,a.w++[m]⟩:aY)]))=(0,st):=aD hk;exact⟨congrArg Prod.fst e,by
   have:=congrArg Prod.snd e;exact this▸h⟩
 have Hz:cN X∉st.map aY.n:=fun jS=>by obtain⟨y,hy,e⟩:=dh.1 jS;exact hk (zE.2 ⟨y.key F,dh.2 ⟨y,hy,rfl⟩,by unfold aY.key;rw[e];exact Tq.2 rfl⟩)
 have iw:((st++[(⟨X,cN X,a.w++[m]⟩:aY)]).map aY.n).Nodup:=by rw[kZ,Gf];refine⟨h.nd,af,fun x hx y hy=>?_⟩;rw[k9.1 hy];exact fun e=>Hz (by have e:x=cN X:=e;rw[<- e];exact hx)
 have oz:∀y∈st++[(⟨X,cN X,a.w++[m]⟩:aY)],bQ (F:Int) y.c=0/\y.n=cN y.c/\y.n∈T:=fun y hy=>by
  rcases eK.1 hy with hy|hy
  .exact h.mem y hy
  rw[k9.1 hy];exact⟨Hg,rfl,hXT⟩
 have hlen:=au2 _ T iw fun x hx=>by obtain⟨y,hy,rfl⟩:=dh.1 hx;exact(oz y hy).2.2
 have r8:=hT.len;rw[cM,fS] at hlen;have hlen:st.length+1<=T.length:=hlen;have oE:(nK F X).2=false:=(Yr Hg).2 (hT.nr X Hg hXT);have e:(if (List.map (aY.key F) st).any (fun s=>pM (F:Int) (cN X)==s)=true then ((0,st):Nat×j_) else if st.length=limit then (1,st) else (if (nK F X).2=true then 2 else 0,st++[(⟨X,cN X,a.w++[m]⟩:aY)]))=(0,st++[(⟨X,cN X,a.w++[m]⟩:aY)]):=by rw[ay hk,ay aa,oE];rfl
 exact⟨congrArg Prod.fst e,by
  have:=congrArg Prod.snd e;exact this▸⟨oz,iw⟩⟩
theorem ajl{T:x_}(hT:ShT F limit T){a:aY}:∀ {ms:g_} {st:j_},CB F T st->a∈st->(∀m∈ms,m∈jc F a.c)->(gD F limit a st ms).1=0/\CB F T (gD F limit a st ms).2:=by
 intro ms
 induction ms with
 |nil=>intro st h _ _;exact⟨rfl,h⟩
 |cons m r ih=>intro st h ha hm;rw[Gq];obtain⟨h1,h2⟩:=ajp hT h ha (hm m af);rw[aD h1];obtain⟨t,ht⟩:=ZQ (F:=F) (limit:=limit) a st m;exact ih h2 (by rw[ht];exact Gc _ ha) fun x hx=>hm x (by simp[hx])
theorem akp{T:x_}(hT:ShT F limit T):∀(f i:Nat) (st:j_),CB F T st->(iR F limit f i st).1=0/\CB F T (iR F limit f i st).2:=by
 intro f
 induction f with
 |zero=>intro i st h;exact⟨rfl,h⟩
 |succ f ih=>
  intro i st h;cases hs:st[i]? with
  |none=>
   have e:iR F limit (f+1) i st=(0,st):=by rw[iR,hs]
   rw[e];exact⟨rfl,h⟩
  |some a=>
   obtain⟨h1,h2⟩:=ajl hT (a:=a) h (aV hs) fun m hm=>hm;have e:iR F limit (f+1) i st=iR F limit f (i+1) (gD F limit a st (jc F a.c)).2:=by rw[iR,hs];exact aD h1
   rw[e];exact ih _ _ h2
theorem asP{L:ai}(h:bQ (F:Int) L=0)(hr:¬zt F L):fQ F L=([],L):=by
 obtain⟨h1,_⟩:=K7 h;generalize fQ F L=q at*;obtain⟨ms,X⟩:=q;have kV:mV F L ms=some X:=h1.rep;cases ms with
 |nil=>cases kV;rfl
 |cons m r=>
  exfalso;have kV:(match ft F L m with|none=>none|some K=>mV F K r)=some X:=kV;have hk:=h1.kind m af;cases ha:ft F L m with
  |none=>rw[ha] at kV;cases kV
  |some K=>exact hr ⟨m,K,by simpa using hk,ha⟩
theorem aqB(bN:ni)(hJ:1<=limit)(iE:limit<=20000){N:ai}:∀(f:Nat) {a:ai} {p:g_} {b:Nat},FP F a<f->rO F N b a p->∃L0 q,bQ (F:Int) L0=0/\ ¬zt F L0/\(dE F limit L0).1≠2/\zj F limit f a p=((kO F (dE F limit L0).2).n,q,(dE F limit L0).1==0):=by
 intro f
 induction f with
 |zero=>intro a p b hm;omega
 |succ f ih=>
  intro a p b hm hP;by_cases h2:(dE F limit (fQ F a).2).1=2
  .rw[XQ h2];obtain⟨aI,dQ⟩:=EF bN hJ iE hP.red.chk;obtain⟨h3,_⟩:=hP.round bN hJ iE (Oc aI).2;have h4:=XV bN hJ iE hP.chk h2;exact ih aa h3
  rw[Q6 h2];obtain⟨_,hn,_⟩:=K7 hP.chk;exact⟨(fQ F a).2,_,hP.red.chk,(Re hP.red.chk).1 hn,h2,rfl⟩
theorem ako{st:j_}(h:st≠[]):∃b:Nat,qj F (st.map aY.n) st.length=(b:Int)/\st[b]?=some (kO F st):=by
 have aI:1<=st.length:=jl.2 h;unfold kO;rcases Og F (st.map aY.n) st.length with ⟨h0,_⟩|⟨h0,h1⟩
 .omega
 obtain⟨b,hb⟩:=tA h0;rw[hb] at h1 |-;obtain⟨m,hm⟩:=aM (ls:=st) (k:=b) aa;exact⟨b,rfl,by rw[pP,hm];rfl⟩
theorem aqE(bN:ni)(hJ:1<=limit)(iE:limit<=20000)(h:bQ (F:Int) ls=0):bQ (F:Int) (oI F limit ls).1=0/\cN (oI F limit ls).1=(oI F limit ls).1/\ ¬zt F (oI F limit ls).1/\((oI F limit ls).2.2=true->oI F limit (oI F limit ls).1=((oI F limit ls).1,[],true)):=by
 obtain⟨L0,q,h0,tS,uD,e⟩:=aqB bN hJ iE (ls.length+2) (XT ls) (rO.start h);have e:oI F limit ls=((kO F (dE F limit L0).2).n,q,(dE F limit L0).1==0):=e;obtain⟨aI,dQ⟩:=EF bN hJ iE h0;have Ww:=aae (F:=F) aI;have gb:=dQ _ Ww;have HA:∀x∈(dE F limit L0).2,¬zt F x.c:=fun x hx=>(Yr (dQ x hx).chk).1 (aks (F:=F) (limit:=limit) (limit+1) 0 [⟨L0,cN L0,[]⟩] (fun y hy=>by rw[k9.1 hy];exact(Yr h0).2 tS) uD x hx)
 have idem:∀X:ai,bQ (F:Int) X=0->cN (cN X)=cN X:=fun X hX=>by
  by_cases Hf:X=[]
  .subst Hf;rfl
  obtain⟨G,_,g⟩:=rj hX Hf;have:F=G:=aa;subst this;exact acJ (by
   have hv:=FT g.chk;have uE:cN X≠[]:=fun e2=>by have:=ags g;rw[e2] at this;exact Hf (Ej.1 this.symm)
   obtain⟨G',_,g'⟩:=rj hv uE;have:F=G':=aa;subst this;exact g') (acI g.even g.vK.2.1)
 rw[e];show bQ (F:Int) (kO F (dE F limit L0).2).n=0/\cN (kO F (dE F limit L0).2).n=(kO F (dE F limit L0).2).n/\ ¬zt F (kO F (dE F limit L0).2).n/\(((dE F limit L0).1==0)=true->oI F limit (kO F (dE F limit L0).2).n=((kO F (dE F limit L0).2).n,[],true));obtain⟨b,hb,anX⟩:=ako (F:=F) aI;generalize hB:kO F (dE F limit L0).2=B at*;have hBc:=gb.chk;have hBn:=gb.vK;have hv:bQ (F:Int) B.n=0:=by rw[hBn];exact FT hBc
 have hi:cN B.n=B.n:=by rw[hBn];exact idem _ hBc
 have hrB:¬zt F B.n:=fun hr=>HA B Ww (ahA hv hBc (by rw[hi,hBn]) hr);refine⟨hv,hi,hrB,fun hw=>?_⟩;have hw:(dE F limit L0).1=0:=dk.1 hw;have closed:=ak7 bN hJ iE h0 hw;have hT:ShT F limit ((dE F limit L0).2.map aY.n):=by
  refine⟨fun A X m hA hAT hm hX=>?_,fun A hA hAT hr=>?_,by rw[cM];exact TG hJ⟩
  .obtain⟨x,hx,ex⟩:=dh.1 hAT;have gx:=dQ x hx;obtain⟨hk,gA,_⟩:=XO hA hm;have es:cN A=cN x.c:=by rw[<- ex,gx.vK]
   have gxf:=ac1 gA gx.chk es;obtain⟨m',Y,kS,hY,hf⟩:=atq gA gxf es hk hX;have iX:=aqu gxf (by rw[kS];exact hk) hY;obtain⟨y,hy,ey⟩:=closed x hx m' iX;rw[hY] at ey;have hYX:cN X=cN Y:=by
    have Hg:=(IW gA (by unfold k5;omega) hX).1;by_cases Hf:X=[]
    .have:Y=[]:=by
      have:=hf.1;rw[Hf] at this;exact Ej.1 this
     rw[Hf,this]
    obtain⟨G,_,g⟩:=rj Hg Hf;have:F=G:=aa;subst this;exact acJ g hf.symm
   rw[hYX];exact dh.2 ⟨y,hy,ey⟩
  obtain⟨x,hx,ex⟩:=dh.1 hAT;have gx:=dQ x hx;exact HA x hx (ahA hA gx.chk (by rw[<- ex,gx.vK]) hr)
 have hBT:B.n∈(dE F limit L0).2.map aY.n:=dh.2 ⟨B,Ww,rfl⟩;have jS:CB F ((dE F limit L0).2.map aY.n) [⟨B.n,cN B.n,[]⟩]:=⟨fun y hy=>by rw[k9.1 hy];exact⟨hv,rfl,by rw[hi];exact hBT⟩,af⟩
 obtain⟨w1,w2⟩:=akp hT (limit+1) 0 _ jS;obtain⟨t,ht⟩:=aaf (F:=F) (limit:=limit) (limit+1) 0 [⟨B.n,cN B.n,[]⟩];have w1:(dE F limit B.n).1=0:=w1;have w2:CB F ((dE F limit L0).2.map aY.n) (dE F limit B.n).2:=w2;have ht:(dE F limit B.n).2=[⟨B.n,cN B.n,[]⟩]++t:=ht;have Qz:∀j,j<((dE F limit B.n).2.map aY.n).length-> ¬sJ F (((dE F limit B.n).2.map aY.n).getD j []) F (((dE F limit B.n).2.map aY.n).getD 0 [])<0:=fun j hj=>by
  have e0:((dE F limit B.n).2.map aY.n).getD 0 []=B.n:=by rw[ht];exact hi
  obtain⟨z,hz⟩:=aM hj;have ez:((dE F limit B.n).2.map aY.n).getD j []=z:=by rw[dA,hz];rfl
  obtain⟨y,hy,rfl⟩:=dh.1 (aV hz);obtain⟨i,Hr⟩:=iJ (w2.mem y hy).2.2;have tO:=(aT.1 Hr).1;have k1:=aqs (F:=F) (l:=(dE F limit L0).2.map aY.n) (dE F limit L0).2.length i (by rw[cM] at tO;exact tO);rw[hb,pP,dA,Hr,dA,fG,anX] at k1;rw[e0,ez];exact k1
 have hlen:1<=(dE F limit B.n).2.length:=by rw[ht];simp
 have r7:=aqt Qz ((dE F limit B.n).2.length-1) (by rw[cM];omega);rw[show(dE F limit B.n).2.length-1+1=(dE F limit B.n).2.length by omega] at r7;have Fi:kO F (dE F limit B.n).2=⟨B.n,cN B.n,[]⟩:=by unfold kO;rw[r7,ht];rfl
 have uH:=asP hv hrB;show zj F limit (B.n.length+1+1) (cN B.n) []=_;rw[hi,Q6 (by rw[uH];show(dE F limit B.n).1≠2;rw[w1];decide),uH];show((kO F (dE F limit B.n).2).n,[]++[]++(kO F (dE F limit B.n).2).w,(dE F limit B.n).1==0)=_;rw[Fi,w1];show(cN B.n,[]++[]++[],true)=_;rw[hi];rfl
end
theorem aut{site:Nat}{p:g_}{c:C}{aj:aB}(h:grown site fO 7 (mP p) (.one c) aj):∃r,(∀B:aB,B site=aj site->Go.Abs.snap B fE c=some (lW p,r))/\(p=[]->r=[]):=by
 obtain⟨r,h1,_⟩:=h.F3;refine⟨r,h1,fun e=>?_⟩;subst e;rcases h with ⟨_,e2⟩|⟨aI,_⟩
 .cases e2;have h2:=h1 aj rfl;have h3:Go.Abs.snap aj fE (.p .nils)=some (.sl [],[]):=rfl;rw[h3] at h2;cases h2;rfl
 exact absurd rfl aI
def Ty(s:Nat)(L:ai)(c:C)(aj:aB):Prop:=c=.p (cT L)\/grown s jL 6 (dG L) (.one c) aj
theorem Ty.snap{s:Nat}{L:ai}{c:C}{aj:aB}(h:Ty s L c aj):∃r,∀B:aB,B s=aj s->Go.Abs.snap B fE c=some (cT L,r):=by
 rcases h with rfl|h
 .exact⟨[],fun B _=>rfl⟩
 obtain⟨r,h1,_⟩:=h.F3;exact⟨r,h1⟩
theorem ant{Q:dO}{ak:Env}{aj:aB}{os:h_}{d:w_}{F:Nat}{K:ai}{n:Int}{r:RV}{f:Nat}{vs:e_}{s:Nat}{rd:a_}(hp:aK S f vs r)(hr:Yy F K n r)(h2:rd=[]\/r=.tup [.agg [.p (.int .i64 F),aU jL 6 (dG K)],.one (.p (.int .i64 n)),.one (.p (.int .i64 0))])(eF:S.lone s=false)
  (hK:∀(c:C) ao,Ty (s+1) K c ao->(∀i,i≠s+1->ao i=aj i)->RN S .all os Q (put ak d (.tup [.agg [.p (.int .i64 F),c],.one (.p (.int .i64 n)),.one (.p (.int .i64 0))])) ao):gP S .all (.pc f vs rd s) d os Q ak aj:=by
 have one:r=.tup [.agg [.p (.int .i64 F),aU jL 6 (dG K)],.one (.p (.int .i64 n)),.one (.p (.int .i64 0))]->gP S .all (.pc f vs rd s) d os Q ak aj:=fun e=>by subst e;exact anp hp eF rfl rfl rfl (DY _) fun c ao h1 h2=>hK c ao (.inr h1) h2
 rcases h2 with rfl|h2
 .rcases hr with h|⟨rfl,rfl⟩
  .exact one h
  exact(de hp (by rw[eF];rfl)).2 (hK _ _ (.inl rfl) fun _ _=>rfl)
 exact one h2
theorem am8(hk:aK S 5 [] (rb true)){f n:Int}{A:ai}(h:¬((A.length:Int)<=40/\bQ f A=0/\1<=n/\n<=20)):aK S 3 [dY f A,vi n] (rb true):=by
 have ps:=ahT (f:=f) (ls:=A) (n:=40) ae;refine bk c3 ?_;cases hs:(decide ((A.length:Int)<=40)&&(bQ f A==0)) with
 |false=>rw[hs] at ps;simp only[go_sem,i3,s4,dZ ps,s5,dZ hk];first|done|rfl
 |true=>
  rw[hs] at ps;rw[cU,oO,dk] at hs;by_cases y3:n<1
  .simp only[go_sem,i3,s4,dZ ps,y3,s5,dZ hk];first|done|rfl
  have y4:(20:Int)<n:=by
   by_cases h4:n<=20
   .exact absurd ⟨hs.1,hs.2,aa,h4⟩ h
   omega
  simp only[go_sem,i3,s4,dZ ps,y3,y4,s5,dZ hk];first|done|rfl
theorem am9(hk:aK S 5 [] (rb true))(bN:ni){n:Nat}{A:ai}(hA:A.length<=40)(h1:1<=n)(h2:n<=20)(ck:bQ (F:Int) A=0):aK S 3 [dY F A,vi n] (rb true):=by
 have psm:=ahT (f:=(F:Int)) (ls:=A) (n:=40) ae;rw[Bg (show(A.length:Int)<=40 by omega),ck] at psm;have psm:aK S 4 [dY F A,vi 40] (rb true):=psm;have pm:=af0 bN h1 (show n<=20000 by omega) ck;obtain⟨hX,hi,hr,uy⟩:=aqE bN h1 (show n<=20000 by omega) ck;obtain⟨K,k1,k2⟩:=aqD bN h1 (show n<=20000 by omega) ck;have bY:(oI F n A).2.1.length<=1000:=by have:=k1.len;have h3:=DN A;have hb:(A.length+2)*n<=42*20:=Nat.mul_le_mul aa h2;omega
 have hNl:=DN A;obtain⟨r,xP,pr⟩:=asZ bN (ajz k1.kind) (FT ck) aa bY;have hKl:K.length<=400:=GF k1.chk;have hXl:=GF hX;have ps:=ats bN (f:=(F:Int)) (g:=(F:Int)) (A:=K) (B:=(oI F n A).1) aa aa k1.chk hX;rw[hi,<- k2,Bg (rfl:(F:Int)=F),Bg rfl] at ps;have ps:aK S 9 [dY F K,dY F (oI F n A).1] (uV (.bool true) (.int .i64 0)):=ps;have pn:=KO bN (f:=(F:Int)) (ls:=A) aa ck;have a3:(cO (iM A)).norm=cT (cN A):=GB _;have pn2:=KO bN (f:=(F:Int)) (ls:=(oI F n A).1) aa hX
 have a4:(cO (iM (oI F n A).1)).norm=cT (cN (oI F n A).1):=GB _;rw[hi] at a4;have pe:=amk (F:Int) (oI F n A).1 aa;have pso:aK S 10 [dY F (oI F n A).1,.one (.p (.sl (iP vM)))] (.tup [.one (.p .nils),.one (.p (.int .i64 0))]):=(Re hX).2 hr;have Oz:=af0 bN h1 (show n<=20000 by omega) hX;have xL:=k1.kind;have kV:=k1.rep;rw[<- k2] at*;generalize oI F n A=Y at*;generalize cO (iM A)=q at*;generalize cO (iM Y.1)=q2 at*;generalize cN A=N at*;have z3:¬((n:Int)<1):=aa;have z4:¬((20:Int)<(n:Int)):=aa;have Ml:((0:Int)!=0)=false:=ae;have mf:S.lone 192192128=false:=ah;refine bk c3 ?_;simp only[go_sem,i3,s4,dZ psm,z3,z4,s6];refine Wm pm mf fun c bU g1 dw=>?_
 obtain⟨r1,sn1,jV⟩:=aut g1;have q0:=dw 192000000 ae;simp only[go_sem] at q0;clear dw;simp only[go_sem,q0,s7,de pn FM,a3,sn1,s8];have ti:S.lone 192320192=false:=ah;rcases xP with ⟨hn,_⟩|⟨K',hK',hck',xP,ao1⟩
 .rw[hn] at kV;cases kV
 rw[kV] at hK';cases hK';have oE:r1=[]\/r=.tup [.agg [.p (.int .i64 F),aU jL 6 (dG K)],.one (.p (.int .i64 Y.2.1.length)),.one (.p (.int .i64 0))]:=by
  by_cases e:Y.2.1=[]
  .exact .inl (jV e)
  exact .inr (ao1 e)
 refine ant pr xP oE ti fun cK bh gK bj=>?_;have b0:=bj 192000000 ae;have b1:=bj 192192384 ae;have b2:=bj 192192130 ae;have b3:=bj 192256320 ae;simp only[go_sem,q0] at b0 b1 b2 b3;have sn2:∀B:aB,B 192192130=bh 192192130->Go.Abs.snap B fE c=some (lW Y.2.1,r1):=fun B hB=>sn1 B (hB.trans b2);obtain⟨r2,snK⟩:=gK.snap;have g2:=g1.of_eq b2;clear bj sn1 gK g1;have lq:∀ {aj:aB} {rd:a_} {s:Nat} {q:Bool},land aj rd s ((uV (.bool true) (.int .i64 0)).gJ q)=some (.tup [.one (.p (.bool true)),.one (.p (.int .i64 0))],[]):=by intro aj rd s q;cases q<;>(unfold land;rw[aD (.inr rfl)];rfl)
 have ln:∀ {aj:aB} {rd:a_} {s:Nat} {q:Bool},land aj rd s ((RV.tup [.one (.p .nils),.one (.p (.int .i64 0))]).gJ q)=some (.tup [.one (.p .nils),.one (.p (.int .i64 0))],[]):=by intro aj rd s q;cases q<;>(unfold land;rw[aD (.inr rfl)];rfl)
 have n00:(((0:Nat):Int)!=0)=false:=ae;have ps:aK S 9 [.agg [.p (.int .i64 F),.p (cT K)],.agg [.p (.int .i64 F),.p (.sl (Y.1.map Let.ps))]] (uV (.bool true) (.int .i64 0)):=ps;have pso:aK S 10 [.agg [.p (.int .i64 F),.p (.sl (Y.1.map Let.ps))],.one (.p (.sl [[.int .i64 1],[.int .i64 4],[.int .i64 6]]))] (.tup [.one (.p .nils),.one (.p (.int .i64 0))]):=pso;simp only[go_sem,b1,snK,s9,de ps lq,s7,de pn2 FM,s10,de pso ln,s11,a4,dZ pe,Ml,n00];have g2:grown 192192130 fO 7 (mP Y.2.1) (.one c) bh:=g2;obtain⟨G,hG⟩:∃G,(bU 192192384).fst+1=G:=⟨_,rfl⟩;rw[hG] at b1 |-
 refine dy (fun k ak aj=>ak 1=vi n/\ak 5=.one (.aZ 192192384 G 0)/\ak 18=vi k/\aj 192192384=(G,some (.var [.p (.int .i64 F),.p (cT Y.1),c,.p (.bool Y.2.2)]))/\grown 192192130 fO 7 (mP Y.2.1) (.one c) aj) 0 Y.2.1.length (bG _) ?_ ?_
 .simp only[go_sem];first
   |exact⟨b1,g2.of_eq (by simp only[aO,Nat.reduceEqDiff,if_false])⟩
   |exact⟨rfl,b1,g2.of_eq (by simp only[aO,Nat.reduceEqDiff,if_false])⟩
   |exact⟨rfl,rfl,rfl,by simp only[aO,Nat.reduceEqDiff,if_false];exact b1,g2.of_eq (by simp only[aO,Nat.reduceEqDiff,if_false])⟩
 rintro k ak aj eH ⟨JO,h5,gG,hb,gc⟩
 have jq:(mP Y.2.1).length=Y.2.1.length:=pL _;by_cases aw:k<Y.2.1.length
 .have aL:((k:Int)<(Y.2.1.length:Int)):=aa;have w1:=cS (n:=k) aa;obtain⟨m,hm⟩:=aM aw;have Ay:=HX hm;have h5k:=xL m (aV hm);rcases gc with ⟨e,_⟩|⟨aI,gg,e,xH⟩
  .exfalso;rw[e] at jq;simp at jq;omega
  cases e;rw[jq] at hb;have cs:((1:Int)!=1)=false/\((4:Int)!=1)=true/\((4:Int)!=4)=false/\((6:Int)!=1)=true/\((6:Int)!=4)=true/\((6:Int)!=6)=false/\((3:Int)!=1)=true/\((3:Int)!=4)=true/\((3:Int)!=6)=true/\((3:Int)!=3)=false/\((8:Int)!=1)=true/\((8:Int)!=4)=true/\((8:Int)!=6)=true/\((8:Int)!=3)=true/\((8:Int)!=8)=false:=ae;have Bz:grown 192192130 fO 7 (mP Y.2.1) (.one (.hsl 192192130 gg 7 0 Y.2.1.length)) aj:=.inr ⟨aI,gg,by rw[jq],xH⟩;rw[jq];unfold k5 at h5k;rcases h5k with kS|kS|kS|kS|kS
  all_goals
   simp only[go_sem,i3_l1,JO,h5,gG,hb,aw,aL,xH,Ay,aP.ps,kS,cs,w1];first
    |exact Bz
    |exact⟨aw,Bz⟩
    |exact⟨aw,rfl,rfl,rfl,hb,Bz⟩
 have hkn:k=Y.2.1.length:=aa;subst hkn;have lo3:S.lone 193088192=false:=ah;obtain⟨⟨X,p,wh⟩,hY⟩:∃x,Y=x:=⟨Y,rfl⟩;subst hY;simp only at gG hb gc jq;have tail:∀(ak:Env) (aj:aB),ak 1=vi n->ak 5=.one (.aZ 192192384 G 0)->(∃c:C,aj 192192384=(G,some (.var [.p (.int .i64 F),.p (cT X),c,.p (.bool wh)])))->W S .all i3_r2 (nj .all [(4,none)] fun v aj=>jd aj v=some (rb true)) ak aj:=by
  rintro ak aj JO h5 ⟨c,hb⟩
  have pe:aK S 11 [.agg [.p (.int .i64 F),.p (.sl (X.map Let.ps))],.agg [.p (.int .i64 F),.p (.sl (X.map Let.ps))]] (rb true):=pe;cases wh with
  |false=>simp only[go_sem,i3_r2,JO,h5,hb,s6];refine Wm Oz lo3 fun c2 ig g3 gk=>?_;have d1:=gk 192192384 ae;simp only[go_sem,hb] at d1;clear gk;simp only[go_sem,h5,d1,s5,dZ hk];first|done|rfl
  |true=>
   have uy:oI F n X=(X,[],true):=uy rfl;have Oz:aK S 6 [dY F X,vi n] (KF F (oI F n X)):=Oz;rw[uy] at Oz;simp only[go_sem,i3_r2,JO,h5,hb,s6];refine Wm Oz lo3 fun c2 ig g3 gk=>?_;have d1:=gk 192192384 ae;simp only[go_sem,hb] at d1;clear gk;rcases g3 with ⟨_,e2⟩|⟨aI,_⟩
   .cases e2;have z00:(((0:Nat):Int)==0)=true:=rfl;simp only[go_sem,h5,d1,z00,s11,dZ pe,s5,dZ hk];first|done|rfl
   exact absurd rfl aI
 rcases gc with ⟨e,e2⟩|⟨aI,gg,e,xH⟩
 .cases e2;have hp0:p=[]:=by simpa [mP] using e
  subst hp0;have zz0:¬(((0:Nat):Int)<((0:Nat):Int)):=ae;simp only[go_sem,i3_l1,h5,gG,hb,zz0];first
   |exact tail _ _ (by simp only[go_sem,JO]) (by simp only[go_sem,h5]) ⟨_,hb⟩
 cases e;rw[jq] at hb;simp only[go_sem,i3_l1,h5,gG,hb,eI];first
  |exact tail _ _ (by simp only[go_sem,JO]) (by simp only[go_sem,h5]) ⟨_,hb⟩
theorem apO(bN:ni)(hk:aK S 5 [] (rb true))(f:Int)(A:ai)(n:Int):aK S 3 [dY f A,vi n] (rb true):=by
 by_cases h:(A.length:Int)<=40/\bQ f A=0/\1<=n/\n<=20
 .obtain⟨hA,ck,h1,h2⟩:=h;obtain⟨m,rfl⟩:=tA (show 0<=n by omega);obtain⟨F,rfl⟩:=akX ck;exact am9 hk bN aa aa aa ck
 exact am8 hk h
end
end Go.Abs
namespace Go.Proofs.YtfdblnecoamlbaaGreatDoor.fnEaseForms
open Go.Abs Go.ChangeShapes Go.WideShapes Go.ChangeAt Go.RowKit
theorem adM {P : Program} {N n : Nat} {t : TypeId} {fs : Array Field} {p : b_} (hu : P.underlying t = some (.struct fs)) (h : kM P N (n + 1) t p) :
    ∃parts : s_, p = parts.flatten ∧ parts.length = fs.toList.length ∧ ∀(i : Nat) (f : Field) (x : b_), fs.toList[i]?= some f → parts[i]?= some x → kM P N n f.type x := by
  simp only [kM, hu] at h;exact h
theorem aqe {es : s_} (h :∀x ∈ es, ∃l : Let, x = l.ps) :∃ls : ai, es = ls.map Let.ps := by
  induction es with
  | nil => exact ⟨[], rfl⟩
  | cons e es ih =>obtain ⟨l, rfl⟩ := h e (by simp);obtain ⟨ls, rfl⟩ := ih fun x hx => h x (by simp [hx]);exact ⟨l :: ls, rfl⟩
theorem aqd {N n : Nat} {p : b_} (h : kM S.P N (n + 1 + 1) 48 p) :∃l : Let, p = l.ps := by
  obtain ⟨parts, rfl, hl, hp⟩ := adM Tryz.underlying48 h;rcases parts with _ | ⟨p0, _ | ⟨p1, _ | ⟨p2, _ | ⟨p3, _ | ⟨p4, _ | ⟨p5, _ | ⟨p6, r⟩⟩⟩⟩⟩⟩⟩ <;> first
    | (simp at hl; done)
    | skip
  obtain ⟨k, rfl, _⟩ := Hi Tryz.underlying46 (hp 0 _ _ rfl rfl);obtain ⟨g, rfl, _⟩ := Hi Tryz.underlying3 (hp 1 _ _ rfl rfl);obtain ⟨r, rfl, _⟩ := Hi Tryz.underlying3 (hp 2 _ _ rfl rfl);obtain ⟨i, rfl, _⟩ := Hi Tryz.underlying3 (hp 3 _ _ rfl rfl);obtain ⟨s, rfl, _⟩ := Hi Tryz.underlying3 (hp 4 _ _ rfl rfl);obtain ⟨o, rfl⟩ := anV Tryz.underlying4 (hp 5 _ _ rfl rfl);exact ⟨⟨k, g, r, i, s, o⟩, rfl⟩
theorem alh {N n : Nat} {p : b_} (h : kM S.P N (n + 1 + 1 + 1 + 1) 24 p) :∃(k : Int) (ls : ai), p = [.int .i64 k,.sl (ls.map Let.ps)] := by
  obtain ⟨parts, rfl, hl, hp⟩ := adM Tryz.underlying24 h;rcases parts with _ | ⟨p0, _ | ⟨p1, _ | ⟨p2, r⟩⟩⟩ <;> first
    | (simp at hl; done)
    | skip
  obtain ⟨k, rfl, _⟩ := Hi Tryz.underlying3 (hp 0 _ _ rfl rfl);obtain ⟨es, rfl, _, he⟩ := anW Tryz.underlying22 (hp 1 _ _ rfl rfl);obtain ⟨ls, rfl⟩ := aqe fun x hx => aqd (he x hx);exact ⟨k, ls, rfl⟩
theorem law_any (pvss : s_) (h : O6 S.P maxLen 4 Tryz.f3.params.toList pvss) : aK S 3 (CJ S.P Tryz.f3.params.toList pvss) (.one (.p (.bool true))) := by
  have hp : Tryz.f3.params.toList = [24, 3] := by rw [Tryz.params3]
  rw [hp] at h |-;rcases pvss with _ | ⟨a0, _ | ⟨a1, _ | ⟨a2, z2⟩⟩⟩
  · exact h.elim
  · exact h.2.elim
  · obtain ⟨f0, ls0, rfl⟩ := alh (n := 0) h.1
    obtain ⟨x1, rfl, _⟩ := Hi (n := 3) Tryz.underlying3 h.2.1;have e3 :∀(f : Int) (a : ai), CI S.P 24 [.int .i64 f,.sl (a.map Let.ps)] = dY f a := fun f a => ajL (P := S.P) Tryz.underlying24;have e1 :∀x : Int, CI S.P 3 [.int .i64 x] = vi x := fun x => ajK (P := S.P) Tryz.underlying3 (fun fs h => by cases h);simp only [CJ, e3, e1];exact apO ak3 apD f0 ls0 x1
  · exact h.2.2.elim
theorem gTab : Tryz.prog.globalNamed Sw = some 0 := by kernel_rfl
theorem anw : (Tryz.prog.globals[0]?).map (·.type) = some 237 := by kernel_rfl
theorem akN : Tryz.prog.cellsOf 237 = 20 := by kernel_rfl
theorem akO : Tryz.prog.cellsOf 209 = 1 := by kernel_rfl
/-- what the row's list gives: the table of the powers of ten -/
theorem table {W : World} (h : laidMetH Tryz.prog Rows.easeFormsRow.laid W) : G W := by
  have h1 : laidMet Tryz.prog Rows.easeFormsRow.laid W := h;have h2 := h1.tail.tail;have e : (Rows.laid_internal_strconv_uint64pow10 : DataW Unit) = Lib.tabData .u64 Lib.pow10Tab := by kernel_rfl
  rw [e] at h2;exact Lib.tabIs_of_head (rest := []) gTab anw Tryz.underlying237 Tryz.underlying209 akO akN h2
end Go.Proofs.YtfdblnecoamlbaaGreatDoor.fnEaseForms
namespace Go.Proofs.YtfdblnecoamlbaaGreatDoor.fnEaseForms
open Go.Abs Go.ChangeShapes Go.WideShapes Go.ChangeAt Go.RowKit
theorem own : ownKnob Tryz.prog.godebug = none := by kernel_rfl
theorem alq (H : Type) (enc : TypeId×Value → H) (W : World) (base : Nat) (args : Array Value) (ds gs : List (DataW H)) (before : List MemPlace)
    (hval :∀(j : Nat) t v, Tryz.f3.params[j]?= some t → args[j]?= some v → Value.okWide Tryz.prog W .any base t v)
    (hW : DataW.Whole enc Tryz.prog Tryz.f3.params.toList Rows.easeFormsSpec.vars false W args.toList ds gs before) (hL : laidMetH Tryz.prog Rows.easeFormsRow.laid W) :
    Calls Tryz.prog 3 args W fun e W' =>∃v, e =.returned v ∧ Rows.easeFormsSpec.post enc Tryz.prog Tryz.f3 false true false false W args v W' := by
  have hk :∀t ∈ Tryz.f3.params.toList, kG S.P 4 t = true := by
    rw [Tryz.params3];intro t ht;have e : t = 24 ∨ t = 3 := by simpa using ht
    have k0 : kG S.P 4 24 = true := by kernel_rfl
    have k1 : kG S.P 4 3 = true := by kernel_rfl
    rcases e with e | e
    · exact e ▸ k0
    · exact e ▸ k1
  have hfit :∀d ∈ ds, Fits maxLen d := by obtain ⟨p, q, hA, _⟩ := hW;exact (air hk hA).1
  exact apN S_ok (fun w h => anH h) (fn := Tryz.f3) (s := Rows.easeFormsSpec) rfl
    (fun H ds hd => by
      rw [Tryz.params3] at hd
      match ds, hd with
      | [d0, d1], _ => rfl) (tb := 4) (by kernel_rfl) Tryz.underlying4 hk law_any hval hW (table hL) hfit

noncomputable def akM (d : DataW Unit) : Array Value :=
  match d with
  | .agg l => (l.map fun
    | .lit (.int k z) => Value.int k z
    | _ => undef).toArray
  | _ => #[]
noncomputable def XD (d : DataW Unit) : Obj → Obj
  | .cells _ t frozen =>.cells (akM d) t frozen
  | o => o
noncomputable def Xz (os : Os) : World :={ World.holding Tryz.prog os ⟨#[], #[], []⟩ with heap := (((World.holding Tryz.prog os ⟨#[], #[], []⟩).heap.modify 1 (XD Rows.laid_math_bits_deBruijn32tab)).modify 2 (XD Rows.laid_math_bits_deBruijn64tab)).modify 0 (XD Rows.laid_internal_strconv_uint64pow10) }
theorem apJ (os : Os) : laidMet Tryz.prog Rows.easeFormsRow.laid ((Xz os).forCall (fun _ _ => 0) ⟨#[], #[Value.agg #[.int .i64 0,.slice none 0 0],.int .i64 0], []⟩).memory :=laidMet_of_run' 8 (by kernel_rfl) (by kernel_rfl)
theorem reads (os : Os) {H : Type} (enc : TypeId×Value → H) :∃places, DataW.whole enc Tryz.prog ((Xz os).forCall (fun _ _ => 0) ⟨#[], #[Value.agg #[.int .i64 0,.slice none 0 0],.int .i64 0], []⟩).memory Tryz.f3.params.toList Rows.easeFormsSpec.vars false #[Value.agg #[.int .i64 0,.slice none 0 0],.int .i64 0].toList 8 = some ([.agg [.lit (.int .i64 0),.nil],.lit (.int .i64 0)], [], places) :=
  ⟨[], by kernel_rfl⟩

theorem lifted (os : Os) (started : os.Started) (H : Type) (enc : TypeId×Value → H) (F : Stop.Interp) :
    ReturnsInHanded {} Tryz.checked os 3 .any ((OpenSpec.ofChange Rows.easeFormsSpec).preRow enc Tryz.prog Tryz.f3 Rows.easeFormsRow.domain false Rows.easeFormsRow.laid) (((OpenSpec.ofChange Rows.easeFormsSpec).at F).post enc Tryz.prog Tryz.f3 false true false false) := by
  obtain ⟨places, hx⟩ := reads os enc;refine returnsInHanded_of_row (C := Tryz.checked) (s := (OpenSpec.ofChange Rows.easeFormsSpec)) own started (by kernel_rfl) Tryz.func3
    (witness_row_at (enc := enc) (C := Tryz.checked) false (Xz os) #[Value.agg #[.int .i64 0,.slice none 0 0],.int .i64 0] rfl (by kernel_rfl) (by kernel_rfl) (by kernel_rfl)
      (OpenSpec.preRow_of_cond 8 hx (by kernel_rfl) (fun k hk => by cases hk) (by kernel_rfl) (apJ os))) ?_
  intro W base args ds gs before hval hW _ _ _ hL _ _;exact alq H enc W base args ds gs before hval hW hL
end Go.Proofs.YtfdblnecoamlbaaGreatDoor.fnEaseForms
namespace Go.Proofs.YtfdblnecoamlbaaGreatDoor.fnEaseForms
open Go.Abs Go.ChangeShapes Go.WideShapes Go.ChangeAt Go.RowKit
theorem said : Rows.EaseFormsSaid :=
  OpenClaim.holds_of_cond 3 Tryz.f3 rfl rfl rfl rfl rfl rfl rfl ⟨rfl, rfl, rfl, rfl, rfl⟩ rfl rfl rfl rfl rfl (by kernel_rfl) Tryz.func3 closed
    (of_decide_eq_true (by kernel_rfl)) (by unfold Func.isWrapper; first | (rw [if_pos (by decide +kernel)]; kernel_rfl) | (rw [if_neg (by decide +kernel)]; exact ⟨rfl, rfl⟩))
    (fun os started H enc _ F => by rw [OpenClaim.pre_eq_preRow]; exact lifted os started H enc F)

theorem plain (f : FuncId) (fn : Func) (hf : Tryz.pinned.checked.prog.funcNamed Rows.easeFormsRow.func = some f) (hfn : Tryz.pinned.checked.prog.funcs[f]?= some fn) :
    false = Tryz.pinned.checked.prog.looks [] ∧ ∀(j : Nat) t, fn.params[j]?= some t → Tryz.pinned.checked.prog.wantsStandIn t = false := by
  obtain rfl : f = 3 := Option.some.inj ((show Tryz.prog.funcNamed Rows.easeFormsRow.func = some 3 by kernel_rfl).symm.trans hf) |>.symm
  obtain rfl : fn = Tryz.f3 := (Option.some.inj (Tryz.func3.symm.trans hfn)).symm;refine ⟨by kernel_rfl, ?_⟩
  · intro j t ht
    rw [Tryz.params3] at ht;have e : t = 24 ∨ t = 3 := by simpa using Array.mem_of_getElem? ht
    have k0 : Tryz.prog.wantsStandIn 24 = false := by kernel_rfl
    have k1 : Tryz.prog.wantsStandIn 3 = false := by kernel_rfl
    rcases e with e | e
    · exact e ▸ k0
    · exact e ▸ k1

theorem avW : Rows.easeFormsRow.wfByText (OpenSpec.ofChange Rows.easeFormsSpec) = true := by kernel_rfl
theorem mainIs : Tryz.pinned.checked.prog.mainIs = some ((true, "1b788b2fd06338f18e44e4b57c3445d3e1a39bd57a50fadca23c2bfb3c40697c").1, (true, "1b788b2fd06338f18e44e4b57c3445d3e1a39bd57a50fadca23c2bfb3c40697c").2.toList) := by kernel_rfl
theorem card : Rows.EaseFormsCardSaid :=Claim7.holds_tied_plain_at .later [] _ _ _ _ said (fun _ h => by cases h) avW (fun _ h => by cases h) easeForms_row_tie rfl ⟨rfl, rfl⟩ mainIs rfl plain goes
end Go.Proofs.YtfdblnecoamlbaaGreatDoor.fnEaseForms
