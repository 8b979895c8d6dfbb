/-
  EaseWords: for every two codes and every limit the call returns true and the arguments read as they did. It holds for every input that the row speaks of; the tables that the row lists hold what the text lays.
-/
import Derived.Test.YtonblbhhnelniaaGreatDoorRh
import Derived.Test.YtonblbhhnelniaaGreatDoorOa
import Derived.Test.YtonblbhhnelniaaGreatDoorTie
import Derived.Deep.DeepHandedRow
import Derived.Deep.DeepLaidRun
import Derived.Stop.LaidErr
import Derived.Test.YtonblbhhnelniaaGreatDoorSb
import Derived.Test.YtonblbhhnelniaaGreatDoorTa
import Derived.Test.YtonblbhhnelniaaGreatDoorFa
import Derived.Test.YtonblbhhnelniaaGreatDoorGa
set_option linter.all false
set_option maxRecDepth 100000
set_option maxHeartbeats 16000000
namespace Go.Abs
section
variable{ls:List Let}{F limit:Nat}
theorem Wd{f:Int}{n:Nat}(hl:ls.length<=1000000)(h1:1<=n)(h2:n<=20000):aI S 19 [eY f ls,vi n] (ri (cN f ls)):=by
 have pc:=Ss f ls hl;have a1:¬((n:Int)<1):=aa;have a2:¬((20000:Int)<(n:Int)):=aa;generalize cN f ls=e at*;refine aY c19 ?_;by_cases h:e=0
 .subst h;have vW:((0:Int)!=0)=false:=ae;simp only[go_sem,i19,s18,eH pc,vW,a1,a2];first|done|rfl
 have e1:(e !=0)=true:=by simpa using h
 simp only[go_sem,i19,s18,eH pc,e1];first|done|rfl
theorem KO(bQ:nK){L0:List Let}(jx:1<=limit)(iv:limit<=20000)(h0:cN (F:Int) L0=0):(ik F limit L0).2≠[]/\ ∀m∈(ik F limit L0).2,vL F L0 (ik F limit L0).2.length m:=by
 have h4:(fun i=>if i=896512000 then (1,some (.var [.p (.bool false)])) else (0,none):aq) 896512000=(1,some (.var [.p (.bool false)])):=if_pos rfl;generalize (fun i=>if i=896512000 then (1,some (.var [.p (.bool false)])) else (0,none):aq)=iE at h4;have tP:=afJ (F:=F) (limit:=limit) (cc:=.p (cP L0)) (r0:=[]) h4 fun n=>rfl;have hac:xg (allow (S.ctx .all) 29 [V.agg [.p (.int .i64 F),.p (cP L0)],vi limit,JU 1] iE):=⟨fun id h=>uQ (by rw[h];kernel_rfl),YW,YU,YV,sB (by rw[tP];simp)⟩;obtain⟨v,ao,_,hP⟩:=YR hac bQ (F:=F) (limit:=limit) (L0:=L0) (gv:=1) (c0:=.p (cP L0)) (r0:=[]) (aj:=iE) jx iv h0 (fun B hB=>rfl) pY.nil (fun i hi=>by cases hi) h4;obtain⟨s,g,_,_,_,_,aF,dk,_⟩:=hP;exact⟨aF,dk⟩
noncomputable def GF (F:Nat) (a:List Let):Nat:=a.length+(if (zR F a).2 then 0 else 1)
theorem aez(bQ:nK){a:List Let}(jx:1<=limit)(iv:limit<=20000)(qQ:cN (F:Int) a=0)(h2:(ik F limit (fO F a).2).1=2):GF F (vm (ik F limit (fO F a).2).2).c+1<=GF F a:=by
 obtain⟨O7,_,_⟩:=QF qQ;obtain⟨aF,dk⟩:=KO bQ jx iv O7.chk;have hb:∃x,(ik F limit (fO F a).2).2.getLast?=some x/\(zR F x.c).2=true:=ai8 h2;obtain⟨x,hx,hr⟩:=hb;have Mo:vm (ik F limit (fO F a).2).2=x:=by unfold vm;rw[hx];rfl
 have hs:=(dk _ (PS aF).2).same;rw[Mo] at hs ⊢;obtain⟨k1,k2⟩:=arw qQ;unfold GF;rw[hr];simp only[if_true];by_cases hd:(zR F a).2=true
 .have:=k2 hd;rw[if_pos hd];omega
 rw[if_neg hd];omega
theorem ah0{al:Al}{Q:dy}{ak:Env}{aj:aq}{c:aJ}(h:W S al c (JY (fun e b=>W S al (.loop c) Q e b) Q) ak aj):W S al (.loop c) Q ak aj:=by
 obtain⟨n,e,aD,ao,h1,h2⟩:=h;cases e with
 |normal=>obtain⟨m,e,cZ,aZ,h3,h4⟩:=h2;refine⟨max n m+1,e,cZ,aZ,?_,h4⟩;have h5:=zb S (ll (Fl n m) (Nat.le_succ _)) h1;have h6:=zb S (Hp n m) h3;simp only[exec] at h6 ⊢;have h7:=PM S (Nat.le_succ (max n m)) (aX _) h6;rw[iter,h5];exact h7
 |exit i=>refine⟨n+1,_,_,_,?_,h2⟩;have h5:=zb S (Nat.le_succ n) h1;simp only[exec,iter,h5]
 |ret=>refine⟨n+1,_,_,_,?_,h2⟩;have h5:=zb S (Nat.le_succ n) h1;simp only[exec,iter,h5]
theorem aeq{f:Nat}{a:List Let}{p:List a7}(h:(ik F limit (fO F a).2).1=2):A8 F limit (f+1) a p=A8 F limit f (vm (ik F limit (fO F a).2).2).c (p++(fO F a).1++(vm (ik F limit (fO F a).2).2).w):=by rw[A8,if_pos h]
theorem aep{f:Nat}{a:List Let}{p:List a7}(h:(ik F limit (fO F a).2).1≠2):A8 F limit (f+1) a p=((tm F (ik F limit (fO F a).2).2).n,p++(fO F a).1++(tm F (ik F limit (fO F a).2).2).w,(ik F limit (fO F a).2).1==0):=by rw[A8,if_neg h]
theorem sv.round(bQ:nK){N a:List Let}{b:Nat}{p:List a7}(jx:1<=limit)(iv:limit<=20000)(h:sv F N b a p){m:cQ}(hm:m∈(ik F limit (fO F a).2).2):sv F N (b+limit) m.c (p++(fO F a).1++m.w)/\m.n=gT m.c:=by have hr:=h.red;obtain⟨aF,dk⟩:=KO bQ jx iv hr.chk;have hg:=dk m hm;exact⟨hr.mem (hg.mono (YX jx)),hg.nor⟩
theorem apa(bQ:nK){N:List Let}(jx:1<=limit)(iv:limit<=20000):∀(f:Nat) {a:List Let} {p:List a7} {b:Nat},GF F a<f->sv F N b a p->∃K,sv F N (b+f*limit) K (A8 F limit f a p).2.1/\(A8 F limit f a p).1=gT K:=by
 intro f
 induction f with
 |zero=>intro a p b hm;omega
 |succ f ih=>
  intro a p b hm hP;by_cases h2:(ik F limit (fO F a).2).1=2
  .rw[aeq h2];obtain⟨aF,dk⟩:=KO bQ jx iv hP.red.chk;obtain⟨h3,_⟩:=hP.round bQ jx iv (PS aF).2;have h4:=aez bQ jx iv hP.chk h2;obtain⟨K,k1,k2⟩:=ih aa h3;exact⟨K,by rw[show b+(f+1)*limit=b+limit+f*limit by rw[Nat.succ_mul];omega];exact k1,k2⟩
  rw[aep h2];obtain⟨aF,dk⟩:=KO bQ jx iv hP.red.chk;obtain⟨h3,h4⟩:=hP.round bQ jx iv (ai6 (F:=F) aF);refine⟨_,⟨h3.chk,h3.rep,h3.kind,?_⟩,h4⟩;have h5:=h3.len;have h6:0<=f*limit:=bd _;rw[Nat.succ_mul];show(p++(fO F a).1++(tm F (ik F limit (fO F a).2).2).w).length+(tm F (ik F limit (fO F a).2).2).c.length<=_;omega
theorem apw(bQ:nK){N:List Let}(jx:1<=limit)(iv:limit<=20000)(hN:N.length<=1000):∀(f:Nat) {a:List Let} {p:List a7} {b:Nat} {ak:Env} {aj:aq} {Q:dy},GF F a<f->sv F N b a p->b+f*limit<=40000000->MkH F limit a p ak aj->
  (∀(aD:Env) (ao:aq),(lE .all i14.results fun v aj=>iA aj v=some (Nb F (A8 F limit f a p))) .ret aD ao->Q .ret aD ao)->W S .all (.loop i14_l3) Q ak aj:=by
 intro f
 induction f with
 |zero=>intro a p b ak aj Q hm;omega
 |succ f ih=>
  intro a p b ak aj Q hm hP hb hI hQ;have bK:=hP.len;have hz:0<=f*limit:=bd _;rw[Nat.succ_mul] at hb;refine ah0 (apx bQ jx iv hP.chk aa hI (fun aD ao h2 Eb=>?_) fun aD ao h2 hr=>?_)
  .obtain⟨aF,dk⟩:=KO bQ jx iv hP.red.chk;obtain⟨h3,_⟩:=hP.round bQ jx iv (PS aF).2;have h4:=aez bQ jx iv hP.chk h2;exact ih aa h3 aa Eb fun aD ao h=>hQ _ _ (by rw[aeq h2];exact h)
  exact hQ _ _ (by rw[aep h2];exact hr)
theorem sv.start(h:cN (F:Int) ls=0):sv F (gT ls) 0 (gT ls) []:=⟨Nh h,rfl,(fun m hm=>by cases hm),af⟩
theorem aev(ls:List Let):GF F (gT ls)<ls.length+2:=by have:=Js ls;unfold GF;split<;>omega
theorem Wh(bQ:nK)(jx:1<=limit)(iv:limit<=20000)(h:cN (F:Int) ls=0):∃K,sv F (gT ls) ((ls.length+2)*limit) K (vn F limit ls).2.1/\(vn F limit ls).1=gT K:=by obtain⟨K,k1,k2⟩:=apa bQ jx iv (ls.length+2) (aev ls) (sv.start h);rw[iD] at k1;exact⟨K,k1,k2⟩
theorem aes(bQ:nK)(jx:1<=limit)(iv:limit<=20000)(h:cN (F:Int) ls=0):aI S 14 [eY F ls,vi limit] (Nb F (vn F limit ls)):=by
 have rU:=DH h;have pl:=Wd (f:=F) (ls:=ls) (n:=limit) aa jx iv;rw[h] at pl;have pn:=aeW bQ (f:=F) (ls:=ls) aa h;have a3:(cO (ke ls)).norm=cP (gT ls):=Sm (ke ls);have vW:((0:Int)!=0)=false:=ae;generalize cO (ke ls)=q at*;refine aY c14 ?_;simp only[go_sem,i14,s19,eH pl,vW,s28,cX pn adS];have jl:=Js ls;have hb:(ls.length+2)*limit<=402*20000:=Nat.mul_le_mul aa iv;refine apw bQ jx iv aa (ls.length+2) (aev ls) (sv.start h) aa ⟨rfl,rfl,rfl,rfl,⟨.p (.int .i64 0),.p .nils,.p .nils,.p (.bool false),?_⟩,⟨q,?_,a3⟩,⟨.p .nils,?_,grown.nil⟩⟩ fun aD ao hr=>?_
 .simp only[go_sem]
 .simp only[go_sem]
 .simp only[go_sem]
 exact hr
abbrev OD(e:Int):RV:=.tup [.agg [.p .nils,.p .nils],.one (.p (.int .i64 e))]
abbrev okJ(p q:List a7):RV:=.tup [.agg [aR fT 7 (mP p),aR fT 7 (mP q)],.one (.p (.int .i64 0))]
theorem O2{Q:dy}{ak:Env}{aj:aq}{os:List bl}{d:Option Nat}{f:Nat}{vs:List V}{s t1 z1:Nat}{es:List (List PV)}{x y w u:PV}(hp:aI S f vs (.tup [.agg [.p x,.p y,aR t1 z1 es,.p w],.one (.p u)]))(dZ:S.lone s=false)
  (hK:∀(c:C) ao,grown (s+2) t1 z1 es (.one c) ao->(∀i,i≠s+2->ao i=aj i)->RN S .all os Q (put ak d (.tup [.agg [.p x,.p y,c,.p w],.one (.p u)])) ao):gP S .all (.pc f vs [] s) d os Q ak aj:=by
 obtain⟨h1,h2,_⟩:=qw (aj:=aj) (s:=s+2) (ty:=t1) (z:=z1) (es:=es);refine(cX (v:=.tup [.agg [.p x,.p y,(cD aj (s+2) (aR t1 z1 es)).1,.p w],.one (.p u)]) (u:=(cD aj (s+2) (aR t1 z1 es)).2) hp ?_).2 (hK _ _ h1 h2);rw[dZ,sV];unfold land;rw[if_pos (.inl rfl)];simp[jm,gk,kL,gI,iU,qB,pM,lN,cD]
theorem ap4{s1 t1 z1 s2 t2 z2:Nat}{es fs:List (List PV)}{c d:C}{u:PV}{aj:aq}(hs:s1≠s2)(h:grown s1 t1 z1 es (.one c) aj)(h':grown s2 t2 z2 fs (.one d) aj):iA aj (.tup [.agg [c,d],.one (.p u)])=some (.tup [.agg [aR t1 z1 es,aR t2 z2 fs],.one (.p u)]):=by obtain⟨c',o,hc,h2,h3⟩:=h.jc;obtain⟨d',q,hd,k2,k3⟩:=h'.jc;cases hc;cases hd;have e1:∀v:PV,jc aj (.p v)=some (.p v,[],[]):=fun _=>rfl;rcases h3 with rfl|rfl<;>rcases k3 with rfl|rfl<;>simp[iA,rK,tD,my,lM,h2,k2,e1,apart,ud,rq,yx,hs]
theorem an5{f g:Int}{A B:List Let}{n:Nat}(hA:A.length<=1000000)(hB:B.length<=1000000)(h1:1<=n)(h2:n<=20000)(hb:cN f A≠0\/cN g B≠0\/f≠g):∃e,e≠0/\aI S 5 [eY f A,eY g B,vi n] (OD e):=by
 have pc:=Ss f A hA;have pl:=Wd (f:=g) hB h1 h2;have vW:((0:Int)!=0)=false:=ae;by_cases k1:cN f A=0
 .rw[k1] at pc;by_cases k2:cN g B=0
  .rw[k2] at pl;have k3:(f !=g)=true:=by
    rcases hb with h|h|h
    .exact absurd k1 h
    .exact absurd k2 h
    simpa using h
   refine⟨2,ae,aY c5 ?_⟩;simp only[go_sem,i5,s18,s19,eH pc,eH pl,vW,k3];first|done|rfl
  have k3:(cN g B !=0)=true:=by simpa using k2
  refine⟨cN g B,k2,aY c5 ?_⟩;simp only[go_sem,i5,s18,s19,eH pc,eH pl,vW,k3];first|done|rfl
 have k3:(cN f A !=0)=true:=by simpa using k1
 refine⟨cN f A,k1,aY c5 ?_⟩;simp only[go_sem,i5,s18,eH pc,k3];first|done|rfl
theorem aer(bQ:nK)(jx:1<=limit)(iv:limit<=20000)(h:cN (F:Int) ls=0):(vn F limit ls).1.length<=400:=by obtain⟨K,k1,k2⟩:=Wh bQ jx iv h;rw[k2];exact ll (Js K) (DH k1.chk)
theorem acY(bQ:nK){n:Nat}{A B:List Let}(h1:1<=n)(h2:n<=20000)(xw:cN (F:Int) A=0)(yQ:cN (F:Int) B=0):aI S 5 [eY F A,eY F B,vi n] (if (vn F n A).1=(vn F n B).1 then okJ (vn F n A).2.1 (vn F n B).2.1 else OD 9):=by
 have hA:=DH xw;have hB:=DH yQ;have pc:=Ss (F:Int) A aa;have pl:=Wd (f:=(F:Int)) (ls:=B) aa h1 h2;rw[xw] at pc;rw[yQ] at pl;have pa:=aes bQ h1 h2 xw;have pb:=aes bQ h1 h2 yQ;have la:=aer bQ h1 h2 xw;have lb:=aer bQ h1 h2 yQ;generalize vn F n A=X at*;generalize vn F n B=Y at*;have pm:=Zj (F:Int) X.1 (F:Int) Y.1 aa aa;have kA:S.lone 320576128=false:=ah;have pG:S.lone 320640128=false:=ah;have vW:((0:Int)!=0)=false:=ae;have eFF:((F:Int)!=(F:Int))=false:=af;by_cases hc:X.1=Y.1
 .rw[if_pos hc];rw[Y0.2 ⟨rfl,hc⟩] at pm;refine aY c5 ?_;simp only[go_sem,i5,s18,s19,s14,eH pc,eH pl,vW,eFF];refine O2 pa kA fun c bG g1 cU=>?_;have g1:grown 320576130 fT 7 (mP X.2.1) (.one c) bG:=g1;have d0:=cU 320000000 ae;have d1:=cU 320000064 ae;have d2:=cU 320000128 ae;simp only[go_sem] at d0 d1 d2;simp only[go_sem,d1,s14];refine O2 pb pG fun d aZ g2 aV=>?_;have g2:grown 320640130 fT 7 (mP Y.2.1) (.one d) aZ:=g2;have f0:=aV 320000000 ae;have f1:=aV 320000064 ae;have f2:=aV 320000128 ae;have f3:=aV 320576384 ae;have g1:=(g1.of_eq (ao:=aZ) (by rw[aV 320576130 ae];simp only[aM,Nat.reduceEqDiff,if_false]));simp only[go_sem,d0,d1,d2] at f0 f1 f2 f3;simp only[go_sem,f2,f3,s20,eH pm,vW];first
   |exact ap4 ae (g1.of_eq (by simp only[aM,Nat.reduceEqDiff,if_false])) (g2.of_eq (by simp only[aM,Nat.reduceEqDiff,if_false]))
   |trace_state
 rw[if_neg hc];have aF:yR (F:Int) X.1 (F:Int) Y.1≠0:=fun h=>hc (Y0.1 h).2;generalize yR (F:Int) X.1 (F:Int) Y.1=e at*;have e1:(e !=0)=true:=by simpa using aF
 refine aY c5 ?_;simp only[go_sem,i5,s18,s19,s14,eH pc,eH pl,vW,eFF];refine O2 pa kA fun c bG g1 cU=>?_;have d0:=cU 320000000 ae;have d1:=cU 320000064 ae;have d2:=cU 320000128 ae;simp only[go_sem] at d0 d1 d2;simp only[go_sem,d1,s14];refine O2 pb pG fun d aZ g2 aV=>?_;have f0:=aV 320000000 ae;have f1:=aV 320000064 ae;have f2:=aV 320000128 ae;have f3:=aV 320576384 ae;simp only[go_sem,d0,d1,d2] at f0 f1 f2 f3;simp only[go_sem,f2,f3,s20,eH pm,e1];first|done|rfl
theorem alZ{Q:dy}{ak:Env}{aj:aq}{os:List bl}{d:Option Nat}{f:Nat}{vs:List V}{s t1 z1 t2 z2:Nat}{es fs:List (List PV)}{u:PV}(hp:aI S f vs (.tup [.agg [aR t1 z1 es,aR t2 z2 fs],.one (.p u)]))(dZ:S.lone s=false)
  (hK:∀(c e:C) ao,grown s t1 z1 es (.one c) ao->grown (s+1) t2 z2 fs (.one e) ao->(∀i,i≠s->i≠s+1->ao i=aj i)->RN S .all os Q (put ak d (.tup [.agg [c,e],.one (.p u)])) ao):gP S .all (.pc f vs [] s) d os Q ak aj:=by
 obtain⟨h1,h2,_⟩:=qw (aj:=aj) (s:=s) (ty:=t1) (z:=z1) (es:=es);have e0:∀(b b':aq) (k:Nat) (r:RC),b' k=b k->cD b k r=cD b' k r:=by
  intro b b' k r h;cases r with
  |p v=>rfl
  |own ty sz es=>simp only[cD,h]
 have e2:cD aj (s+1) (aR t2 z2 fs)=cD (app (cD aj s (aR t1 z1 es)).2 aj) (s+1) (aR t2 z2 fs):=e0 _ _ _ _ (h2 (s+1) aa);obtain⟨k1,k2,_⟩:=qw (aj:=app (cD aj s (aR t1 z1 es)).2 aj) (s:=s+1) (ty:=t2) (z:=z2) (es:=fs);rw[<- e2] at k1 k2;have zi:∀(a b:List eG) (c:aq),app (a++b) c=app b (app a c):=by
  intro a
  induction a with
  |nil=>intro b c;rfl
  |cons x a ih=>intro b c;exact ih b _
 refine(cX (v:=.tup [.agg [(cD aj s (aR t1 z1 es)).1,(cD aj (s+1) (aR t2 z2 fs)).1],.one (.p u)]) (u:=(cD aj s (aR t1 z1 es)).2++(cD aj (s+1) (aR t2 z2 fs)).2) hp ?_).2 (hK _ _ _ ?_ ?_ ?_)
 .rw[dZ,sV];unfold land;rw[if_pos (.inl rfl)];simp[jm,gk,kL,gI,iU,qB,pM,lN,cD]
 .rw[zi];exact h1.of_eq (k2 s aa)
 .rw[zi];exact k1
 intro i a b;rw[zi,k2 i b,h2 i a]
theorem ajx{f:Int}(h:cN f ls=0):∃F:Nat,f=(F:Int):=by
 by_cases aF:ls=[]
 .subst aF;unfold cN at h;rw[if_neg ae] at h;by_cases hf:f<0\/40<f
  .rw[if_pos hf] at h;cases h
  exact r8 (show 0<=f by omega)
 obtain⟨F,e,_⟩:=vY h aF;exact⟨F,e⟩
theorem aho(a b:List Let):dE (a++b)=dE a++dE b:=by simp[dE]
theorem Ki(l:List Let):(dE l).length=ay Let.aA l:=by unfold dE ay;rw[cF,Kp]
theorem ahp(l:List Let):dE l.reverse=(dE l).reverse:=by unfold dE;rw[List.filter_reverse,List.map_reverse]
theorem aif(f:Int->Int)(x:Let):(ij f x).gate=x.gate:=by unfold ij;split<;>rfl
theorem auR(f:Int->Int)(l:List Let):dE (l.map (ij f))=dE l:=by
 induction l with
 |nil=>rfl
 |cons x l ih=>
  have e:∀(y:Let) (r:List Let),dE (y::r)=(if y.aA then [y.gate] else [])++dE r:=fun y r=>by unfold dE;cases h:y.aA<;>simp[h]
  rw[dG,e,e,Kz,aif,ih]
theorem auS{l:List Let}{i:Nat}(he:ay Let.aA l%2=0)(hp:par l i):dY (cJ true (dE l)) (cJ true (dE (gH l i))):=by
 have e1:dE l=dE (l.take i)++dE (l.drop i):=by rw[<- aho,kG]
 have e2:dE (gH l i)=dE (l.drop i)++dE (l.take i):=aho _ _;have h1:(dE (l.take i)).length%2=0:=by rw[Ki];exact hp
 have h2:(dE (l.drop i)).length%2=0:=by
  have h3:(dE l).length%2=0:=by rw[Ki];exact he
  rw[e1,dX] at h3;omega
 refine⟨cJ true (dE (l.take i)),cJ true (dE (l.drop i)),?_,?_⟩
 .rw[e1,Kx,JB h1]
 rw[e2,Kx,JB h2]
theorem auI(j:Int)(a:List DL):jY j (mN a)= -jY j a:=by
 induction a with
 |nil=>rfl
 |cons x t ih=>
  have h:jY j (x::t)=jY j [x]+jY j t:=Ha j [x] t;have h2:jY j [inv x]= -jY j [x]:=by obtain⟨g,d⟩:=x;cases d<;>simp[jY,inv]<;>split<;>simp
  rw[GV,Ha,ih,h,h2];omega
def oE(a b:List Let):Prop:=vp (dE a)=vp (dE b)/\((∀j:Nat,jY j (cJ true (dE a))=jY j (cJ true (dE b)))\/ ∀j:Nat,jY j (cJ true (dE a))= -jY j (cJ true (dE b)))
theorem oE.refl(a:List Let):oE a a:=⟨rfl,.inl fun _=>rfl⟩
theorem oE.symm{a b:List Let}(h:oE a b):oE b a:=by
 obtain⟨h1,h2⟩:=h;refine⟨h1.symm,?_⟩;rcases h2 with h2|h2
 .exact .inl fun j=>(h2 j).symm
 exact .inr fun j=>by have:=h2 j;omega
theorem oE.trans{a b c:List Let}(h:oE a b)(k:oE b c):oE a c:=by
 obtain⟨h1,h2⟩:=h;obtain⟨k1,k2⟩:=k;refine⟨h1.trans k1,?_⟩;rcases h2 with h2|h2<;>rcases k2 with k2|k2
 .exact .inl fun j=>(h2 j).trans (k2 j)
 .exact .inr fun j=>(h2 j).trans (k2 j)
 .exact .inr fun j=>by have:=h2 j;have:=k2 j;omega
 exact .inl fun j=>by have:=h2 j;have:=k2 j;omega
theorem ahb{a b:List Let}(ha:ay Let.aA a%2=0)(hb:ay Let.aA b%2=0)(h:yB (cJ true (dE a)) (cJ true (dE b))):oE a b:=by
 have h1:(dE a).length%2=0:=by rw[Ki];exact ha
 have h2:(dE b).length%2=0:=by rw[Ki];exact hb
 obtain⟨k1,k2⟩:=as4 (by rw[yM];exact h1) (by rw[yM];exact h2) h;exact⟨apM h1 h2 k1,.inl fun j=>k2 j⟩
theorem auu{a:List Let}(ha:ay Let.aA a%2=0):oE a a.reverse:=by
 have h1:(dE a).length%2=0:=by rw[Ki];exact ha
 refine⟨by rw[ahp,apO h1],.inr fun j=>?_⟩;rw[ahp,<- Sa h1,auI];omega
theorem aut(l:List Let):oE l (yw l):=by obtain⟨f,_,e⟩:=arE l;rw[e];unfold oE;rw[auR];exact⟨rfl,.inl fun _=>rfl⟩
theorem auq{l y:List Let}(he:ay Let.aA l%2=0)(h:Cj l y):oE l y:=by
 have key:∀m,ay Let.aA m%2=0->Ak m y->oE m y:=fun m hm h=>by obtain⟨i,hi,⟨_,hp⟩,rfl⟩:=h;exact(ahb hm (by rw[Sx];exact hm) (.inl (auS hm hp))).trans (aut _)
 rcases h with h|h
 .exact key l he h
 exact(auu he).trans (key l.reverse (by rw[Ca];exact he) h)
theorem Rh(h:cN (F:Int) ls=0):oE ls (gT ls):=by
 by_cases aF:ls=[]
 .subst aF;exact oE.refl _
 obtain⟨G,e,g⟩:=vY h aF;exact auq g.even g.nor.2.1
theorem akT(h:cN (F:Int) ls=0):ay Let.aA ls%2=0:=by rw[<- Ki];exact(U4 h).1.even
theorem as5(g:dr F ls){k a b c:Int}(hk:k5 k){l o:Bool}{sg:Int}{L:List Pc}(hA:bt F ls k a b c l o sg=true)(h:qZ F ls k a.toNat b.toNat c.toNat l o sg=some L):
  (L=[]\/Cert F L)/\yB (dT (pieces ls)) (dT L):=by
 unfold bt at hA;unfold qZ at h;rcases hk with rfl|rfl|rfl|rfl|rfl
 .simp only[Int.reduceEq,if_true,if_false,or_false,or_self] at hA h ⊢;simp only[cH,kV,beq_iff_eq] at hA;obtain⟨rfl,rfl,rfl,hx,rfl,rfl⟩:=hA;obtain⟨av,rfl,ha⟩:=k8 hx;exact⟨YJ g ha h,slk1 g ha h⟩
 .simp only[Int.reduceEq,if_true,if_false,or_false,or_self] at hA h ⊢;simp only[cH,kV,beq_iff_eq,decide_eq_true_eq] at hA;obtain⟨rfl,rfl,rfl,hx,rfl,hy,aw⟩:=hA;obtain⟨av,rfl,ha⟩:=k8 hx;obtain⟨bv,rfl,hb⟩:=k8 hy;exact⟨.inr (YK g ha hb aa h),slk3 g ha hb h⟩
 .simp only[Int.reduceEq,if_true,if_false,or_false,or_true,or_self] at hA h ⊢;simp only[cH,kV,beq_iff_eq] at hA;obtain⟨rfl,rfl,rfl,hx,rfl,rfl⟩:=hA;obtain⟨av,rfl,ha⟩:=k8 hx;exact⟨.inr (YM g ha h),.inl (by rw[slk4 h];exact dY.refl _)⟩
 .simp only[Int.reduceEq,if_true,if_false,or_true,or_self] at hA h ⊢;simp only[cH,kV,beq_iff_eq,decide_eq_true_eq] at hA;obtain⟨rfl,rfl,rfl,hx,rfl,hy,aw⟩:=hA;obtain⟨av,rfl,ha⟩:=k8 hx;obtain⟨bv,rfl,hb⟩:=k8 hy;exact⟨.inr (YN g ha hb h),.inl (by rw[slk6 h];exact dY.refl _)⟩
 simp only[Int.reduceEq,if_true,if_false,or_self] at hA h ⊢;simp only[cH,kV,beq_iff_eq,decide_eq_true_eq] at hA;obtain⟨rfl,rfl,rfl,hx,hy,hz,_,_⟩:=hA;obtain⟨av,rfl,ha⟩:=k8 hx;obtain⟨bv,rfl,hb⟩:=k8 hy;obtain⟨cv,rfl,hc⟩:=k8 hz;exact⟨.inr (YO g ha hb hc h),slk8 g ha hb hc h⟩
theorem aus{M:List Let}(h:cN (F:Int) ls=0){m:a7}(hk:k5 m.k)(hm:oL F ls m=some M):oE ls M/\cN (F:Int) M=0:=by
 unfold oL at hm;by_cases aF:ls=[]
 .subst aF;rw[if_pos rfl] at hm;split at hm
  .rename_i hA;obtain⟨bv,k1,_⟩:=ain hA;unfold k5 at hk;omega
  cases hm
 obtain⟨G,e,g⟩:=vY h aF;have:F=G:=aa;subst this;rw[if_neg aF] at hm;split at hm
 case isFalse=>cases hm
 rename_i hA;rcases Oe g hk m.a m.b m.c m.l m.o m.s with ⟨e,he,h1⟩|⟨M',h1,h2,h3,L,h4,rfl⟩
 .unfold uR at h1;rw[if_pos hA] at h1;cases hL:qZ F ls m.k m.a.toNat m.b.toNat m.c.toNat m.l m.o m.s with
  |none=>rw[hL] at hm;cases hm
  |some L=>
   rw[hL] at hm h1;dsimp only at hm;split at hm
   .cases hm
   rename_i hc;have e2:y9 F ls m.k (some L)=pN F (mw L):=if_neg hc;rw[e2] at h1;exact absurd h1 (arO he)
 rw[h4] at hm;dsimp only at hm;split at hm
 .cases hm
 cases hm;obtain⟨Ve,hs⟩:=as5 g hk hA h4;have hw:dY (dT L) (cJ true (dE (mw L))):=by
  rcases Ve with rfl|Ve
  .exact dY.refl _
  exact alk Ve
 have hd:=hs.post hw;rw[Ys g] at hd;exact⟨ahb g.even (akT h2) hd,h2⟩
theorem aha:∀ {p:List a7} {ls M:List Let},cN (F:Int) ls=0->(∀m∈p,k5 m.k)->uc F ls p=some M->oE ls M:=by
 intro p
 induction p with
 |nil=>intro ls M _ _ h;cases h;exact oE.refl _
 |cons m p ih=>
  intro ls M h hk hr;have hr:(match oL F ls m with|none=>none|some L=>uc F L p)=some M:=hr;cases ha:oL F ls m with
  |none=>rw[ha] at hr;cases hr
  |some L=>rw[ha] at hr;obtain⟨h1,h2⟩:=aus h (hk m af) ha;exact h1.trans (ih h2 (fun m hm=>hk m (by simp[hm])) hr)
theorem aur{a b:List Let}(h:oE a b):oF F (dE a)=oF F (dE b)\/oF F (dE a)=(oF F (dE b)).map fun x=> -x:=by
 rcases h.2 with h|h
 .exact .inl (auK fun j _=>h j)
 refine .inr ?_;unfold oF;rw[ti];refine vH fun j hj=>?_;rw[Function.comp_apply,Rj _ (dE a) _ (aX _),Rj _ (dE b) _ (aX _),jh,jh];exact h j
theorem Z1{a b:List Int}(hl:a.length<=1000000)(he:a.length=b.length):aI S 9 [.one (.p (aA a)),.one (.p (aA b))] (rb (decide (a=b))):=by
 have z3:((b.length:Int)!=(b.length:Int))=false:=af;generalize hr:decide (a=b)=r;refine aY c9 ?_;simp only[go_sem,i9,he,z3];refine cV (fun k ak aj=>ak 0=.one (.p (aA a))/\ak 1=.one (.p (aA b))/\ak 5=vi k/\ ∀j,j<k->a[j]?=b[j]?) 0 a.length (bd _) ?_ ?_
 .simp only[go_sem];exact⟨rfl,fun j hj=>absurd hj (qE _)⟩
 rintro k ak aj hk ⟨h0,h1,h5,hq⟩
 by_cases aw:k<a.length
 .have aL:((k:Int)<(b.length:Int)):=aa;have w1:=cK (n:=k) aa;obtain⟨x,hx⟩:=aK aw;obtain⟨y,hy⟩:=aK (ls:=b) (k:=k) aa;have nU:=mK hx;have hyp:=mK hy;by_cases hU:x=y
  .have MU:(x !=y)=false:=by simp[hU]
   have CK:∀j,j<k+1->a[j]?=b[j]? :=fun j hj=>by
    by_cases h:j=k
    .rw[h,hx,hy,hU]
    exact hq j aa
   simp only[go_sem,i9_l1,h0,h1,h5,he,aL,nU,hyp,MU,w1];exact⟨aH,aa,CK⟩
  have MU:(x !=y)=true:=by simpa using hU
  have hf:r=false:=by rw[<- hr];exact decide_eq_false fun h=>by rw[h,hy] at hx;cases hx;exact hU rfl
  subst hf;simp only[go_sem,i9_l1,h0,h1,h5,he,aL,nU,hyp,MU];first
   |exact aH
 have:k=a.length:=aa;subst this;have hf:r=true:=by
  rw[<- hr];refine decide_eq_true (vF fun j=>?_);by_cases h:j<a.length
  .exact hq j h
  rw[lS aa,lS aa]
 subst hf;simp only[go_sem,i9_l1,i9_r2,h0,h5,he,eK]
theorem aea:S.lone 192192192=false:=ah
theorem aom{aj:aq}{s:Nat}{e:Int}(dZ:S.lone s=false):land aj [] s ((OD e).ig (S.lone s))=some (.tup [.agg [.p .nils,.p .nils],.one (.p (.int .i64 e))],[]):=by rw[dZ];rfl
theorem auV(hk:aI S 4 [] (rb true)){f g n:Int}{A B:List Let}(h:¬(A.length<=24/\B.length<=24/\1<=n/\n<=20)):aI S 3 [eY f A,eY g B,vi n] (rb true):=by
 refine aY c3 ?_;by_cases y1:(24:Int)<(A.length:Int)
 .simp only[go_sem,i3,y1,s4,cS hk];first|done|rfl
 by_cases y2:(24:Int)<(B.length:Int)
 .simp only[go_sem,i3,y1,y2,s4,cS hk];first|done|rfl
 by_cases y3:n<1
 .simp only[go_sem,i3,y1,y2,y3,s4,cS hk];first|done|rfl
 have y4:(20:Int)<n:=aa;simp only[go_sem,i3,y1,y2,y3,y4,s4,cS hk];first|done|rfl
theorem ahs(hk:aI S 4 [] (rb true)){f g:Int}{n:Nat}{A B:List Let}(hA:A.length<=24)(hB:B.length<=24)(h1:1<=n)(h2:n<=20){e:Int}(he:e≠0)(pj:aI S 5 [eY f A,eY g B,vi n] (OD e)):aI S 3 [eY f A,eY g B,vi n] (rb true):=by
 have z1:¬((24:Int)<(A.length:Int)):=aa;have z2:¬((24:Int)<(B.length:Int)):=aa;have z3:¬((n:Int)<1):=aa;have z4:¬((20:Int)<(n:Int)):=aa;have m1:(e !=0)=true:=by simpa using he
 refine aY c3 ?_;simp only[go_sem,i3,z1,z2,z3,z4,s5,cX pj (aom aea),m1,s4,cS hk];first|done|rfl
theorem apG{y:List Int}{k:Nat}{v:Int}(h:y[k]?=some v):(y.take (k+1)).map (fun x=> -x)=(y.take k).map (fun x=> -x)++[-v]:=by rw[kn,h];simp
theorem auW(hk:aI S 4 [] (rb true))(bQ:nK){n:Nat}{A B:List Let}(hA:A.length<=24)(hB:B.length<=24)(h1:1<=n)(h2:n<=20)(xw:cN (F:Int) A=0)(yQ:cN (F:Int) B=0)(he:(vn F n A).1=(vn F n B).1):aI S 3 [eY F A,eY F B,vi n] (rb true):=by
 have hF:=Om xw;have pj:=acY bQ h1 (show n<=20000 by omega) xw yQ;rw[if_pos he] at pj;have hw:oE A B:=by obtain⟨K,k1,k2⟩:=Wh bQ h1 (show n<=20000 by omega) xw;obtain⟨L,l1,l2⟩:=Wh bQ h1 (show n<=20000 by omega) yQ;have a1:=(Rh xw).trans ((aha (Nh xw) k1.kind k1.rep).trans (Rh k1.chk));have a2:=(Rh yQ).trans ((aha (Nh yQ) l1.kind l1.rep).trans (Rh l1.chk));rw[<- k2,he,l2] at a1;exact a1.trans a2.symm
 have hd:=aur (F:=F) hw;obtain⟨gv,gv2⟩:=U4 xw;obtain⟨gw,gw2⟩:=U4 yQ;have pv:=ahn xw aa;have pw:=ahn yQ aa;have ps:=ao0 gv gw hw.1;have px:=ahl (k:=F) aa gv gv2;have py:=ahl (k:=F) aa gw gw2;have bY:=auJ (k:=F) gw.len;have lx:(oF F (dE A)).length=F:=by simp[oF]
 have ly:(oF F (dE B)).length=F:=by simp[oF]
 generalize oF F (dE A)=x at*;generalize oF F (dE B)=y at*;have pe:=Z1 (a:=x) (b:=y) aa aa;have pz:=Z1 (a:=x) (b:=y.map fun x=> -x) aa (by rw[cF];omega);generalize dE A=v at*;generalize dE B=w at*;have z1:¬((24:Int)<(A.length:Int)):=aa;have z2:¬((24:Int)<(B.length:Int)):=aa;have z3:¬((n:Int)<1):=aa;have z4:¬((20:Int)<(n:Int)):=aa;have vW:((0:Int)!=0)=false:=ae;have pG:S.lone 192384064=false:=ah;have lo3:S.lone 192448064=false:=ah;have lo4:S.lone 192576192=false:=ah;have lo5:S.lone 192640192=false:=ah;refine aY c3 ?_;simp only[go_sem,i3,z1,z2,z3,z4,s5];refine alZ pj aea fun c d bG g1 g2 cU=>?_
 have q0:=cU 192000000 ae ae;have q64:=cU 192000064 ae ae;simp only[go_sem] at q0 q64;clear cU g1 g2;simp only[go_sem,q0,vW,s6];refine O1 pv pG (GX _) rfl fun c2 aZ g3 aV=>?_;have b0:=aV 192000000 ae;have b1:=aV 192000064 ae;simp only[go_sem,q0,q64] at b0 b1;clear aV;simp only[go_sem,b1,s6];refine O1 pw lo3 (GX _) rfl fun c3 fG g4 eW=>?_
 have b20:=eW 192000000 ae;have b21:=eW 192000064 ae;simp only[go_sem,b0,b1] at b20 b21;have g3:=g3.of_eq (eW _ ae);clear eW;obtain⟨r1,sn1,_⟩:=g3.Dj;obtain⟨r2,sn2,_⟩:=g4.Dj;have sv1:=sn1 fG rfl;have sv2:=sn2 fG rfl;have lq:∀ {aj:aq} {rd:List Nat} {s:Nat} {q:Bool},land aj rd s ((vu (.bool true) (.int .i64 0)).ig q)=some (.tup [.one (.p (.bool true)),.one (.p (.int .i64 0))],[]):=by intro aj rd s q;cases q<;>(unfold land;rw[if_pos (.inr rfl)];rfl)
 have nn:((F:Int)!=(F:Int))=false:=af;simp only[go_sem,b20,sv1,sv2,s7,cX ps lq,s8];refine abI px lo4 (GX _) rfl fun iE g5 jv ho4=>?_;have b30:=ho4 192000000 ae;have b31:=ho4 192000064 ae;have sv3:=sn2 iE (ho4 _ ae);simp only[go_sem,b20,b21] at b30 b31;clear ho4;simp only[go_sem,b31,sv3,s8];refine abI py lo5 (GX _) rfl fun Ae g6 zj ho5=>?_
 have hx5:=(ho5 192576192 ae).trans jv;clear ho5;simp only[go_sem,lx,ly,nn,vW];refine cV (fun k ak aj=>ak 15=.one (.hsl 192576192 g5 1 0 F)/\ak 17=.one (.hsl 192640192 g6 1 0 F)/\ak 20=vi k/\aj 192576192=(g5,some (.arr pE 1 (iP x)))/\aj 192640192=(g6,some (.arr pE 1 (iP y)))/\ ∃c,ak 19=.one c/\grown 193088448 pE 1 (iP ((y.take k).map fun x=> -x)) (.one c) aj) 0 y.length (bd _) ?_ ?_
 .simp only[go_sem];first|exact⟨hx5,zj,_,rfl,grown.nil⟩|exact⟨rfl,hx5,zj,_,rfl,grown.nil⟩
 rintro k ak aj dO ⟨jG,gJ,lY,LI,hby,cz,gG,gz⟩
 have vk:(iP x).length=F:=by simp[lx]
 have hyl:(iP y).length=F:=by simp[ly]
 by_cases aw:k<y.length
 .have aL:((k:Int)<(F:Int)):=aa;have amY:k<F:=aa;have w1:=cK (n:=k) aa;obtain⟨v,hv⟩:=aK aw;have hvp:=mK hv;have hvb:=bY v (aU hv);have wn:IntKind.i64.wrap (-v)= -v:=XC ⟨aa,aa⟩;simp only[go_sem,i3_l1,gJ,gG,lY,hby,aL,amY,hvp];refine qN (site:=193088448) (id:=193088448) (bytes:=8) (xs:=[[.int .i64 (-v)]]) (rd:=[193088384]) (gz.of_eq (by simp only[aM,Nat.reduceEqDiff,if_false])) (by simp[ez,aM,wn]) (.inl rfl) (by simp only[cF,eQ,cq,dN];omega) fun c' fG g1 eW=>?_;have d1:=eW 192576192 ae ae;have d2:=eW 192640192 ae ae;simp only[go_sem,LI,hby] at d1 d2;have e1:iP ((y.take k).map fun x=> -x)++[[.int .i64 (-v)]]=iP ((y.take (k+1)).map fun x=> -x):=by rw[apG hv];simp
  rw[e1] at g1;simp only[go_sem,jG,gJ,lY,w1];first
   |exact⟨aw,jG,gJ,rfl,d1,d2,c',rfl,g1⟩
   |exact⟨aw,d1,d2,c',rfl,g1⟩
   |exact⟨aa,d1,d2,c',rfl,g1⟩
 have hkn:k=y.length:=aa;subst hkn;rw[jh] at gz;have jl:¬(((y.length:Nat):Int)<(F:Int)):=aa;obtain⟨rz,snz,_⟩:=gz.Dj;have szz:=snz aj rfl;have sx:(Go.Abs.snap aj eL (.hsl 192576192 g5 1 0 F))=some (.sl (iP x),[192576192]):=by simp[Go.Abs.snap,eL,LI,vk];exact fS (by simp;omega)
 have sy:(Go.Abs.snap aj eL (.hsl 192640192 g6 1 0 F))=some (.sl (iP y),[192640192]):=by simp[Go.Abs.snap,eL,hby,hyl];exact fS (by simp;omega)
 by_cases hU:x=y
 .rw[decide_eq_true hU] at pe;simp only[go_sem,i3_l1,i3_r2,jG,gJ,lY,jl,sx,sy,s9,cS pe,s4,cS hk];first|done|rfl
 rw[decide_eq_false hU] at pe;have hd:x=y.map fun x=> -x:=hd.resolve_left hU;rw[decide_eq_true hd] at pz;simp only[go_sem,i3_l1,i3_r2,jG,gJ,gG,lY,jl,sx,sy,szz,s9,cS pe,cS pz,s4,cS hk];first|done|rfl
theorem aop(bQ:nK)(hk:aI S 4 [] (rb true))(f:Int)(A:List Let)(g:Int)(B:List Let)(n:Int):aI S 3 [eY f A,eY g B,vi n] (rb true):=by
 by_cases h:A.length<=24/\B.length<=24/\1<=n/\n<=20
 .obtain⟨hA,hB,h1,h2⟩:=h;obtain⟨m,rfl⟩:=r8 (show 0<=n by omega);have h1:1<=m:=aa;have h2:m<=20:=aa;by_cases hb:cN f A≠0\/cN g B≠0\/f≠g
  .obtain⟨e,he,k1⟩:=an5 (A:=A) (B:=B) aa aa h1 aa hb;exact ahs hk hA hB h1 h2 he k1
  have c1:cN f A=0:=Classical.byContradiction fun h=>hb (.inl h);have c2:cN g B=0:=Classical.byContradiction fun h=>hb (.inr (.inl h));have c3:f=g:=Classical.byContradiction fun h=>hb (.inr (.inr h));subst c3;obtain⟨F,rfl⟩:=ajx c1;by_cases he:(vn F m A).1=(vn F m B).1
  .exact auW hk bQ hA hB h1 h2 c1 c2 he
  have k1:=acY bQ h1 (show m<=20000 by omega) c1 c2;rw[if_neg he] at k1;exact ahs hk hA hB h1 h2 ae k1
 exact auV hk h
end
end Go.Abs
namespace Go.Proofs.YtonblbhhnelniaaGreatDoor.fnEaseWords
open Go.Abs Go.ChangeShapes Go.WideShapes Go.ChangeAt Go.RowKit
theorem ab1 {P : Program} {N n : Nat} {t : TypeId} {fs : Array Field} {p : List PV} (hu : P.underlying t = some (.struct fs)) (h : jS P N (n + 1) t p) :
    ∃parts : List (List PV), p = parts.flatten ∧ parts.length = fs.toList.length ∧ ∀(i : Nat) (f : Field) (x : List PV), fs.toList[i]?= some f → parts[i]?= some x → jS P N n f.type x := by
  simp only [jS, hu] at h;exact h
theorem aoP {es : List (List PV)} (h :∀x ∈ es, ∃l : Let, x = l.ps) :∃ls : List Let, es = ls.map Let.ps := by
  induction es with
  | nil => exact ⟨[], rfl⟩
  | cons e es ih =>obtain ⟨l, rfl⟩ := h e (by simp);obtain ⟨ls, rfl⟩ := ih fun x hx => h x (by simp [hx]);exact ⟨l :: ls, rfl⟩
theorem aoO {N n : Nat} {p : List PV} (h : jS S.P N (n + 1 + 1) 42 p) :∃l : Let, p = l.ps := by
  obtain ⟨parts, rfl, hl, hp⟩ := ab1 Tryz.underlying42 h;rcases parts with _ | ⟨p0, _ | ⟨p1, _ | ⟨p2, _ | ⟨p3, _ | ⟨p4, _ | ⟨p5, _ | ⟨p6, r⟩⟩⟩⟩⟩⟩⟩ <;> first
    | (simp at hl; done)
    | skip
  obtain ⟨k, rfl, _⟩ := F4 Tryz.underlying40 (hp 0 _ _ rfl rfl);obtain ⟨g, rfl, _⟩ := F4 Tryz.underlying3 (hp 1 _ _ rfl rfl);obtain ⟨r, rfl, _⟩ := F4 Tryz.underlying3 (hp 2 _ _ rfl rfl);obtain ⟨i, rfl, _⟩ := F4 Tryz.underlying3 (hp 3 _ _ rfl rfl);obtain ⟨s, rfl, _⟩ := F4 Tryz.underlying3 (hp 4 _ _ rfl rfl);obtain ⟨o, rfl⟩ := amr Tryz.underlying4 (hp 5 _ _ rfl rfl);exact ⟨⟨k, g, r, i, s, o⟩, rfl⟩
theorem Za {N n : Nat} {p : List PV} (h : jS S.P N (n + 1 + 1 + 1 + 1) 24 p) :∃(k : Int) (ls : List Let), p = [.int .i64 k,.sl (ls.map Let.ps)] := by
  obtain ⟨parts, rfl, hl, hp⟩ := ab1 Tryz.underlying24 h;rcases parts with _ | ⟨p0, _ | ⟨p1, _ | ⟨p2, r⟩⟩⟩ <;> first
    | (simp at hl; done)
    | skip
  obtain ⟨k, rfl, _⟩ := F4 Tryz.underlying3 (hp 0 _ _ rfl rfl);obtain ⟨es, rfl, _, he⟩ := ams Tryz.underlying22 (hp 1 _ _ rfl rfl);obtain ⟨ls, rfl⟩ := aoP fun x hx => aoO (he x hx);exact ⟨k, ls, rfl⟩
theorem law_any (pvss : List (List PV)) (h : N4 S.P maxLen 4 Tryz.f3.params.toList pvss) : aI S 3 (BK S.P Tryz.f3.params.toList pvss) (.one (.p (.bool true))) := by
  have hp : Tryz.f3.params.toList = [24, 24, 3] := by rw [Tryz.params3]
  rw [hp] at h ⊢;rcases pvss with _ | ⟨a0, _ | ⟨a1, _ | ⟨a2, _ | ⟨a3, z3⟩⟩⟩⟩
  · exact h.elim
  · exact h.2.elim
  · exact h.2.2.elim
  · obtain ⟨f0, ls0, rfl⟩ := Za (n := 0) h.1
    obtain ⟨f1, ls1, rfl⟩ := Za (n := 0) h.2.1;obtain ⟨x2, rfl, _⟩ := F4 (n := 3) Tryz.underlying3 h.2.2.1;have e3 :∀(f : Int) (a : List Let), BJ S.P 24 [.int .i64 f,.sl (a.map Let.ps)] = eY f a := fun f a => aip (P := S.P) Tryz.underlying24;have e1 :∀x : Int, BJ S.P 3 [.int .i64 x] = vi x := fun x => aio (P := S.P) Tryz.underlying3 (fun fs h => by cases h);simp only [BK, e3, e1];exact aop ajA an8 f0 ls0 f1 ls1 x2
  · exact h.2.2.2.elim
theorem gTab : Tryz.prog.globalNamed Q6 = some 0 := by kernel_rfl
theorem al3 : (Tryz.prog.globals[0]?).map (·.type) = some 216 := by kernel_rfl
theorem ajq : Tryz.prog.cellsOf 216 = 20 := by kernel_rfl
theorem ajr : Tryz.prog.cellsOf 201 = 1 := by kernel_rfl
/-- what the row's list gives: the table of the powers of ten -/
theorem table {W : World} (h : laidMetH Tryz.prog Rows.easeWordsRow.laid W) : G W := by
  have h1 : laidMet Tryz.prog Rows.easeWordsRow.laid W := h;have h2 := h1.tail.tail;have e : (Rows.laid_internal_strconv_uint64pow10 : DataW Unit) = Lib.tabData .u64 Lib.pow10Tab := by kernel_rfl
  rw [e] at h2;exact Lib.tabIs_of_head (rest := []) gTab al3 Tryz.underlying216 Tryz.underlying201 ajr ajq h2
end Go.Proofs.YtonblbhhnelniaaGreatDoor.fnEaseWords
namespace Go.Proofs.YtonblbhhnelniaaGreatDoor.fnEaseWords
open Go.Abs Go.ChangeShapes Go.WideShapes Go.ChangeAt Go.RowKit
theorem own : ownKnob Tryz.prog.godebug = none := by kernel_rfl
theorem ajT (H : Type) (enc : TypeId×Value → H) (W : World) (base : Nat) (args : Array Value) (ds gs : List (DataW H)) (before : List MemPlace)
    (hval :∀(j : Nat) t v, Tryz.f3.params[j]?= some t → args[j]?= some v → Value.okWide Tryz.prog W .any base t v)
    (hW : DataW.Whole enc Tryz.prog Tryz.f3.params.toList Rows.easeWordsSpec.vars false W args.toList ds gs before) (hL : laidMetH Tryz.prog Rows.easeWordsRow.laid W) :
    Calls Tryz.prog 3 args W fun e W' =>∃v, e =.returned v ∧ Rows.easeWordsSpec.post enc Tryz.prog Tryz.f3 false true false false W args v W' := by
  have hk :∀t ∈ Tryz.f3.params.toList, jM S.P 4 t = true := by
    rw [Tryz.params3];intro t ht;have e : t = 24 ∨ t = 3 := by simpa using ht
    have k0 : jM S.P 4 24 = true := by kernel_rfl
    have k1 : jM S.P 4 3 = true := by kernel_rfl
    rcases e with e | e
    · exact e ▸ k0
    · exact e ▸ k1
  have hfit :∀d ∈ ds, Fits maxLen d := by obtain ⟨p, q, hA, _⟩ := hW;exact (ag1 hk hA).1
  exact aoo S_ok (fun w h => amd h) (fn := Tryz.f3) (s := Rows.easeWordsSpec) rfl
    (fun H ds hd => by
      rw [Tryz.params3] at hd
      match ds, hd with
      | [d0, d1, d2], _ => rfl) (tb := 4) (by kernel_rfl) Tryz.underlying4 hk law_any hval hW (table hL) hfit

noncomputable def ajp (d : DataW Unit) : Array Value :=
  match d with
  | .agg l => (l.map fun
    | .lit (.int k z) => Value.int k z
    | _ => undef).toArray
  | _ => #[]
noncomputable def V8 (d : DataW Unit) : Obj → Obj
  | .cells _ t frozen =>.cells (ajp d) t frozen
  | o => o
noncomputable def V4 (os : Os) : World :={ World.holding Tryz.prog os ⟨#[], #[], []⟩ with heap := (((World.holding Tryz.prog os ⟨#[], #[], []⟩).heap.modify 1 (V8 Rows.laid_math_bits_deBruijn32tab)).modify 2 (V8 Rows.laid_math_bits_deBruijn64tab)).modify 0 (V8 Rows.laid_internal_strconv_uint64pow10) }
theorem aoh (os : Os) : laidMet Tryz.prog Rows.easeWordsRow.laid ((V4 os).forCall (fun _ _ => 0) ⟨#[], #[Value.agg #[.int .i64 0,.slice none 0 0],.agg #[.int .i64 0,.slice none 0 0],.int .i64 0], []⟩).memory :=laidMet_of_run' 8 (by kernel_rfl) (by kernel_rfl)
theorem reads (os : Os) {H : Type} (enc : TypeId×Value → H) :∃places, DataW.whole enc Tryz.prog ((V4 os).forCall (fun _ _ => 0) ⟨#[], #[Value.agg #[.int .i64 0,.slice none 0 0],.agg #[.int .i64 0,.slice none 0 0],.int .i64 0], []⟩).memory Tryz.f3.params.toList Rows.easeWordsSpec.vars false #[Value.agg #[.int .i64 0,.slice none 0 0],.agg #[.int .i64 0,.slice none 0 0],.int .i64 0].toList 8 = some ([.agg [.lit (.int .i64 0),.nil],.agg [.lit (.int .i64 0),.nil],.lit (.int .i64 0)], [], places) :=
  ⟨[], by kernel_rfl⟩

theorem lifted (os : Os) (started : os.Started) (H : Type) (enc : TypeId×Value → H) (F : Stop.Interp) :
    ReturnsInHanded {} Tryz.checked os 3 .any ((OpenSpec.ofChange Rows.easeWordsSpec).preRow enc Tryz.prog Tryz.f3 Rows.easeWordsRow.domain false Rows.easeWordsRow.laid) (((OpenSpec.ofChange Rows.easeWordsSpec).at F).post enc Tryz.prog Tryz.f3 false true false false) := by
  obtain ⟨places, hx⟩ := reads os enc;refine returnsInHanded_of_row (C := Tryz.checked) (s := (OpenSpec.ofChange Rows.easeWordsSpec)) own started (by kernel_rfl) Tryz.func3
    (witness_row_at (enc := enc) (C := Tryz.checked) false (V4 os) #[Value.agg #[.int .i64 0,.slice none 0 0],.agg #[.int .i64 0,.slice none 0 0],.int .i64 0] rfl (by kernel_rfl) (by kernel_rfl) (by kernel_rfl)
      (OpenSpec.preRow_of_cond 8 hx (by kernel_rfl) (fun k hk => by cases hk) (by kernel_rfl) (aoh os))) ?_
  intro W base args ds gs before hval hW _ _ _ hL _ _;exact ajT H enc W base args ds gs before hval hW hL
end Go.Proofs.YtonblbhhnelniaaGreatDoor.fnEaseWords
namespace Go.Proofs.YtonblbhhnelniaaGreatDoor.fnEaseWords
open Go.Abs Go.ChangeShapes Go.WideShapes Go.ChangeAt Go.RowKit
theorem said : Rows.EaseWordsSaid :=
  OpenClaim.holds_of_cond 3 Tryz.f3 rfl rfl rfl rfl rfl rfl rfl ⟨rfl, rfl, rfl, rfl, rfl⟩ rfl rfl rfl rfl rfl (by kernel_rfl) Tryz.func3 closed
    (of_decide_eq_true (by kernel_rfl)) (by unfold Func.isWrapper; first | (rw [if_pos (by decide +kernel)]; kernel_rfl) | (rw [if_neg (by decide +kernel)]; exact ⟨rfl, rfl⟩))
    (fun os started H enc _ F => by rw [OpenClaim.pre_eq_preRow]; exact lifted os started H enc F)

theorem plain (f : FuncId) (fn : Func) (hf : Tryz.pinned.checked.prog.funcNamed Rows.easeWordsRow.func = some f) (hfn : Tryz.pinned.checked.prog.funcs[f]?= some fn) :
    false = Tryz.pinned.checked.prog.looks [] ∧ ∀(j : Nat) t, fn.params[j]?= some t → Tryz.pinned.checked.prog.wantsStandIn t = false := by
  obtain rfl : f = 3 := Option.some.inj ((show Tryz.prog.funcNamed Rows.easeWordsRow.func = some 3 by kernel_rfl).symm.trans hf) |>.symm
  obtain rfl : fn = Tryz.f3 := (Option.some.inj (Tryz.func3.symm.trans hfn)).symm;refine ⟨by kernel_rfl, ?_⟩
  · intro j t ht
    rw [Tryz.params3] at ht;have e : t = 24 ∨ t = 3 := by simpa using Array.mem_of_getElem? ht
    have k0 : Tryz.prog.wantsStandIn 24 = false := by kernel_rfl
    have k1 : Tryz.prog.wantsStandIn 3 = false := by kernel_rfl
    rcases e with e | e
    · exact e ▸ k0
    · exact e ▸ k1

theorem auN : Rows.easeWordsRow.wfByText (OpenSpec.ofChange Rows.easeWordsSpec) = true := by kernel_rfl
theorem mainIs : Tryz.pinned.checked.prog.mainIs = some ((true, "940ade437c3b4547266e58a925d6256eaf20365e56c0e9471e549ae5a42e58f1").1, (true, "940ade437c3b4547266e58a925d6256eaf20365e56c0e9471e549ae5a42e58f1").2.toList) := by kernel_rfl
theorem card : Rows.EaseWordsCardSaid :=Claim7.holds_tied_plain_at .later [] _ _ _ _ said (fun _ h => by cases h) auN (fun _ h => by cases h) easeWords_row_tie rfl ⟨rfl, rfl⟩ mainIs rfl plain goes
end Go.Proofs.YtonblbhhnelniaaGreatDoor.fnEaseWords
