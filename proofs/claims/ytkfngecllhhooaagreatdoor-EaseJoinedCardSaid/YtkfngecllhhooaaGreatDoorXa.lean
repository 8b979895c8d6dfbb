/-
  EasePaths: for every code and every list of moves the call returns true and the arguments read as they did. It holds for every input that the row speaks of; the tables that the row lists hold what the text lays.
-/
import Derived.Test.YtkfngecllhhooaaGreatDoorRh
import Derived.Test.YtkfngecllhhooaaGreatDoorTie
import Derived.Deep.DeepHandedRow
import Derived.Deep.DeepLaidRun
import Derived.Stop.LaidErr
import Derived.Test.YtkfngecllhhooaaGreatDoorSb
import Derived.Test.YtkfngecllhhooaaGreatDoorTa
import Derived.Test.YtkfngecllhhooaaGreatDoorFa
import Derived.Test.YtkfngecllhhooaaGreatDoorGa
set_option linter.all false
set_option maxRecDepth 100000
set_option maxHeartbeats 16000000
namespace Go.Abs
section
variable{ls:List Let}{F limit:Nat}
theorem vm{f:Int}{n:Nat}(hl:ls.length<=1000000)(h1:1<=n)(h2:n<=20000):aP S 16 [bj f ls,vi n] (ri (ay f ls)):=by
 have pc:=se f ls hl;have a1:¬((n:Int)<1):=by omega
 have a2:¬((20000:Int)<(n:Int)):=by omega
 generalize ay f ls=e at*;refine aJ c16 ?_;by_cases h:e=0
 .subst h;have e00:((0:Int)!=0)=false:=by decide
  simp only[go_sem,i16,s8,a7 pc,e00,a1,a2];first|done|rfl
 have e1:(e !=0)=true:=by simpa using h
 simp only[go_sem,i16,s8,a7 pc,e1];first|done|rfl
theorem zY(hcl:dw){L0:List Let}(hl1:1<=limit)(hlm:limit<=20000)(h0:ay (F:Int) L0=0):(fO F limit L0).2≠[]/\ ∀m∈(fO F limit L0).2,Ny F L0 (fO F limit L0).2.length m:=by
 have h4:(fun i=>if i=832512000 then (1,some (.var [.p (.bool false)])) else (0,none):aw) 832512000=(1,some (.var [.p (.bool false)])):=if_pos rfl;generalize (fun i=>if i=832512000 then (1,some (.var [.p (.bool false)])) else (0,none):aw)=aaO at h4;have hrc:=OO (F:=F) (limit:=limit) (cc:=.p (eB L0)) (r0:=[]) h4 fun n=>rfl;have hac:NF (allow (S.ctx .all) 24 [V.agg [.p (.int .i64 F),.p (eB L0)],vi limit,Bb 1] aaO):=⟨fun id h=>ff (by rw[h];kernel_rfl),ZO,ZP,Wd,dA (by rw[hrc];simp)⟩;obtain⟨v,aaf,_,hP⟩:=K4 hac hcl (F:=F) (limit:=limit) (L0:=L0) (gv:=1) (c0:=.p (eB L0)) (r0:=[]) (blk:=aaO) hl1 hlm h0 (fun B hB=>rfl) fD.nil (fun i hi=>by cases hi) h4;obtain⟨s,g,_,_,_,_,hne,aas,_⟩:=hP;exact⟨hne,aas⟩
noncomputable def Ii (F:Nat) (a:List Let):Nat:=a.length+(if (OP F a).2 then 0 else 1)
theorem Kg(hcl:dw){a:List Let}(hl1:1<=limit)(hlm:limit<=20000)(hck:ay (F:Int) a=0)(h2:(fO F limit (eQ F a).2).1=2):Ii F (mu (fO F limit (eQ F a).2).2).c+1<=Ii F a:=by
 obtain⟨ajh,_,_⟩:=Do hck;obtain⟨hne,aas⟩:=zY hcl hl1 hlm ajh.chk;have hb:∃x,(fO F limit (eQ F a).2).2.getLast?=some x/\(OP F x.c).2=true:=UN h2;obtain⟨x,hx,hr⟩:=hb;have aef:mu (fO F limit (eQ F a).2).2=x:=by unfold mu;rw[hx];rfl
 have hs:=(aas _ (uk hne).2).same;rw[aef] at hs ⊢;obtain⟨k1,k2⟩:=ON hck;unfold Ii;rw[hr];simp only[if_true];by_cases hd:(OP F a).2=true
 .have:=k2 hd;rw[if_pos hd];omega
 rw[if_neg hd];omega
theorem RQ{al:Al}{Q:cU}{env:Env}{blk:aw}{c:am}(h:W S al c (A9 (fun e b=>W S al (.loop c) Q e b) Q) env blk):W S al (.loop c) Q env blk:=by
 obtain⟨n,e,aah,aaf,h1,h2⟩:=h;cases e with
 |normal=>obtain⟨m,e,aar,aal,h3,h4⟩:=h2;refine⟨max n m+1,e,aar,aal,?_,h4⟩;have h5:=ji S (abm (ac5 n m) (Nat.le_succ _)) h1;have h6:=ji S (adb n m) h3;simp only[exec] at h6 ⊢;have h7:=xl S (Nat.le_succ (max n m)) (aaj _) h6;rw[iter,h5];exact h7
 |exit i=>refine⟨n+1,_,_,_,?_,h2⟩;have h5:=ji S (Nat.le_succ n) h1;simp only[exec,iter,h5]
 |ret=>refine⟨n+1,_,_,_,?_,h2⟩;have h5:=ji S (Nat.le_succ n) h1;simp only[exec,iter,h5]
theorem BQ{f:Nat}{a:List Let}{p:List bU}(h:(fO F limit (eQ F a).2).1=2):sM F limit (f+1) a p=sM F limit f (mu (fO F limit (eQ F a).2).2).c (p++(eQ F a).1++(mu (fO F limit (eQ F a).2).2).w):=by rw[sM,if_pos h]
theorem BR{f:Nat}{a:List Let}{p:List bU}(h:(fO F limit (eQ F a).2).1≠2):sM F limit (f+1) a p=((kW F (fO F limit (eQ F a).2).2).n,p++(eQ F a).1++(kW F (fO F limit (eQ F a).2).2).w,(fO F limit (eQ F a).2).1==0):=by rw[sM,if_neg h]
theorem Hh.round(hcl:dw){N a:List Let}{b:Nat}{p:List bU}(hl1:1<=limit)(hlm:limit<=20000)(h:Hh F N b a p){m:eX}(hm:m∈(fO F limit (eQ F a).2).2):Hh F N (b+limit) m.c (p++(eQ F a).1++m.w)/\m.n=js m.c:=by have hr:=h.red;obtain⟨hne,aas⟩:=zY hcl hl1 hlm hr.chk;have hg:=aas m hm;exact⟨hr.mem (hg.mono (KZ hl1)),hg.YF⟩
theorem Pu(hcl:dw){N:List Let}(hl1:1<=limit)(hlm:limit<=20000):∀(f:Nat) {a:List Let} {p:List bU} {b:Nat},Ii F a<f->Hh F N b a p->∃K,Hh F N (b+f*limit) K (sM F limit f a p).2.1/\(sM F limit f a p).1=js K:=by
 intro f
 induction f with
 |zero=>intro a p b hm;omega
 |succ f ih=>
  intro a p b hm hP;by_cases h2:(fO F limit (eQ F a).2).1=2
  .rw[BQ h2];obtain⟨hne,aas⟩:=zY hcl hl1 hlm hP.red.chk;obtain⟨h3,_⟩:=hP.round hcl hl1 hlm (uk hne).2;have h4:=Kg hcl hl1 hlm hP.chk h2;obtain⟨K,k1,k2⟩:=ih (by omega) h3;exact⟨K,by rw[show b+(f+1)*limit=b+limit+f*limit by rw[Nat.succ_mul];omega];exact k1,k2⟩
  rw[BR h2];obtain⟨hne,aas⟩:=zY hcl hl1 hlm hP.red.chk;obtain⟨h3,h4⟩:=hP.round hcl hl1 hlm (Ng (F:=F) hne);refine⟨_,⟨h3.chk,h3.rep,h3.kind,?_⟩,h4⟩;have h5:=h3.len;have h6:0<=f*limit:=aan _;rw[Nat.succ_mul];show(p++(eQ F a).1++(kW F (fO F limit (eQ F a).2).2).w).length+(kW F (fO F limit (eQ F a).2).2).c.length<=_;omega
theorem TK(hcl:dw){N:List Let}(hl1:1<=limit)(hlm:limit<=20000)(hN:N.length<=1000):∀(f:Nat) {a:List Let} {p:List bU} {b:Nat} {env:Env} {blk:aw} {Q:cU},Ii F a<f->Hh F N b a p->b+f*limit<=40000000->MkH F limit a p env blk->
  (∀(aah:Env) (aaf:aw),(lh .all i13.results fun v blk=>fH blk v=some (FL F (sM F limit f a p))) .ret aah aaf->Q .ret aah aaf)->W S .all (.loop i13_l3) Q env blk:=by
 intro f
 induction f with
 |zero=>intro a p b env blk Q hm;omega
 |succ f ih=>
  intro a p b env blk Q hm hP hb hI hQ;have hpl:=hP.len;have hz:0<=f*limit:=aan _;rw[Nat.succ_mul] at hb;refine RQ (Pn hcl hl1 hlm hP.chk (by omega) hI (fun aah aaf h2 hI'=>?_) fun aah aaf h2 hr=>?_)
  .obtain⟨hne,aas⟩:=zY hcl hl1 hlm hP.red.chk;obtain⟨h3,_⟩:=hP.round hcl hl1 hlm (uk hne).2;have h4:=Kg hcl hl1 hlm hP.chk h2;exact ih (by omega) h3 (by omega) hI' fun aah aaf h=>hQ _ _ (by rw[BQ h2];exact h)
  exact hQ _ _ (by rw[BR h2];exact hr)
theorem Hh.start(h:ay (F:Int) ls=0):Hh F (js ls) 0 (js ls) []:=⟨rO h,rfl,(fun m hm=>by cases hm),by simp⟩
theorem BO(ls:List Let):Ii F (js ls)<ls.length+2:=by have:=jN ls;unfold Ii;split<;>omega
theorem qJ(hcl:dw)(hl1:1<=limit)(hlm:limit<=20000)(h:ay (F:Int) ls=0):∃K,Hh F (js ls) ((ls.length+2)*limit) K (fd F limit ls).2.1/\(fd F limit ls).1=js K:=by obtain⟨K,k1,k2⟩:=Pu hcl hl1 hlm (ls.length+2) (BO ls) (Hh.start h);rw[abd] at k1;exact⟨K,k1,k2⟩
theorem Pt(hcl:dw)(hl1:1<=limit)(hlm:limit<=20000)(h:ay (F:Int) ls=0):aP S 13 [bj F ls,vi limit] (FL F (fd F limit ls)):=by
 have hll:=jQ h;have pl:=vm (f:=F) (ls:=ls) (n:=limit) (by omega) hl1 hlm;rw[h] at pl;have pn:=yC hcl (f:=F) (ls:=ls) (by omega) h;have a3:(cO (fZ ls)).norm=eB (js ls):=sk (fZ ls);have e00:((0:Int)!=0)=false:=by decide
 generalize cO (fZ ls)=q at*;refine aJ c13 ?_;simp only[go_sem,i13,s16,a7 pl,e00,s23,aq pn jO];have hnl:=jN ls;have hb:(ls.length+2)*limit<=402*20000:=Nat.mul_le_mul (by omega) hlm;refine TK hcl hl1 hlm (by omega) (ls.length+2) (BO ls) (Hh.start h) (by omega) ⟨rfl,rfl,rfl,rfl,⟨.p (.int .i64 0),.p .nils,.p .nils,.p (.bool false),?_⟩,⟨q,?_,a3⟩,⟨.p .nils,?_,grown.nil⟩⟩ fun aah aaf hr=>?_
 .simp only[go_sem]
 .simp only[go_sem]
 .simp only[go_sem]
 exact hr
abbrev QG(e:Int):RV:=.tup [.agg [.p .nils,.p .nils],.one (.p (.int .i64 e))]
abbrev okJ(p q:List bU):RV:=.tup [.agg [ah md 7 (mP p),ah md 7 (mP q)],.one (.p (.int .i64 0))]
theorem Ky{Q:cU}{env:Env}{blk:aw}{os:List aj}{d:Option Nat}{f:Nat}{vs:List V}{s t1 z1:Nat}{es:List (List PV)}{x y w u:PV}(hp:aP S f vs (.tup [.agg [.p x,.p y,ah t1 z1 es,.p w],.one (.p u)]))(hlo:S.lone s=false)
  (hK:∀(c:C) aaf,grown (s+2) t1 z1 es (.one c) aaf->(∀i,i≠s+2->aaf i=blk i)->RN S .all os Q (put env d (.tup [.agg [.p x,.p y,c,.p w],.one (.p u)])) aaf):gP S .all (.pc f vs [] s) d os Q env blk:=by
 obtain⟨h1,h2,_⟩:=cD (blk:=blk) (s:=s+2) (ty:=t1) (z:=z1) (es:=es);refine(aq (v:=.tup [.agg [.p x,.p y,(dY blk (s+2) (ah t1 z1 es)).1,.p w],.one (.p u)]) (u:=(dY blk (s+2) (ah t1 z1 es)).2) hp ?_).2 (hK _ _ h1 h2);rw[hlo,bl];unfold land;rw[if_pos (.inl rfl)];simp[rV,dp,dJ,bQ,gA,iR,fg,dM,dY]
theorem WW{s1 t1 z1 s2 t2 z2:Nat}{es fs:List (List PV)}{c d:C}{u:PV}{blk:aw}(hs:s1≠s2)(h:grown s1 t1 z1 es (.one c) blk)(h':grown s2 t2 z2 fs (.one d) blk):fH blk (.tup [.agg [c,d],.one (.p u)])=some (.tup [.agg [ah t1 z1 es,ah t2 z2 fs],.one (.p u)]):=by obtain⟨c',o,hc,h2,h3⟩:=h.fR;obtain⟨d',q,hd,k2,k3⟩:=h'.fR;cases hc;cases hd;have e1:∀v:PV,fR blk (.p v)=some (.p v,[],[]):=fun _=>rfl;rcases h3 with rfl|rfl<;>rcases k3 with rfl|rfl<;>simp[fH,jv,ii,ef,fJ,h2,k2,e1,apart,kN,fL,kx,hs]
theorem yV{f g:Int}{A B:List Let}{n:Nat}(hA:A.length<=1000000)(hB:B.length<=1000000)(h1:1<=n)(h2:n<=20000)(hb:ay f A≠0\/ay g B≠0\/f≠g):∃e,e≠0/\aP S 5 [bj f A,bj g B,vi n] (QG e):=by
 have pc:=se f A hA;have pl:=vm (f:=g) hB h1 h2;have e00:((0:Int)!=0)=false:=by decide
 by_cases k1:ay f A=0
 .rw[k1] at pc;by_cases k2:ay g B=0
  .rw[k2] at pl;have k3:(f !=g)=true:=by
    rcases hb with h|h|h
    .exact absurd k1 h
    .exact absurd k2 h
    simpa using h
   refine⟨2,by decide,aJ c5 ?_⟩;simp only[go_sem,i5,s8,s16,a7 pc,a7 pl,e00,k3];first|done|rfl
  have k3:(ay g B !=0)=true:=by simpa using k2
  refine⟨ay g B,k2,aJ c5 ?_⟩;simp only[go_sem,i5,s8,s16,a7 pc,a7 pl,e00,k3];first|done|rfl
 have k3:(ay f A !=0)=true:=by simpa using k1
 refine⟨ay f A,k1,aJ c5 ?_⟩;simp only[go_sem,i5,s8,a7 pc,k3];first|done|rfl
theorem BP(hcl:dw)(hl1:1<=limit)(hlm:limit<=20000)(h:ay (F:Int) ls=0):(fd F limit ls).1.length<=400:=by obtain⟨K,k1,k2⟩:=qJ hcl hl1 hlm h;rw[k2];exact abm (jN K) (jQ k1.chk)
theorem vv(hcl:dw){n:Nat}{A B:List Let}(h1:1<=n)(h2:n<=20000)(ck1:ay (F:Int) A=0)(ck2:ay (F:Int) B=0):aP S 5 [bj F A,bj F B,vi n] (if (fd F n A).1=(fd F n B).1 then okJ (fd F n A).2.1 (fd F n B).2.1 else QG 9):=by
 have hA:=jQ ck1;have hB:=jQ ck2;have pc:=se (F:Int) A (by omega);have pl:=vm (f:=(F:Int)) (ls:=B) (by omega) h1 h2;rw[ck1] at pc;rw[ck2] at pl;have pa:=Pt hcl h1 h2 ck1;have pb:=Pt hcl h1 h2 ck2;have la:=BP hcl h1 h2 ck1;have lb:=BP hcl h1 h2 ck2;generalize fd F n A=X at*;generalize fd F n B=Y at*;have pm:=Cw (F:Int) X.1 (F:Int) Y.1 (by omega) (by omega);have lo1:S.lone 320576128=false:=by kernel_rfl
 have lo2:S.lone 320640128=false:=by kernel_rfl
 have e00:((0:Int)!=0)=false:=by decide
 have eFF:((F:Int)!=(F:Int))=false:=by simp
 by_cases hc:X.1=Y.1
 .rw[if_pos hc];rw[Cy.2 ⟨rfl,hc⟩] at pm;refine aJ c5 ?_;simp only[go_sem,i5,s8,s16,s13,a7 pc,a7 pl,e00,eFF];refine Ky pa lo1 fun c aao g1 hb1=>?_;have g1:grown 320576130 md 7 (mP X.2.1) (.one c) aao:=g1;have d0:=hb1 320000000 (by decide);have d1:=hb1 320000064 (by decide);have d2:=hb1 320000128 (by decide);simp only[go_sem] at d0 d1 d2;simp only[go_sem,d1,s13];refine Ky pb lo2 fun d aal g2 hb2=>?_
  have g2:grown 320640130 md 7 (mP Y.2.1) (.one d) aal:=g2;have f0:=hb2 320000000 (by decide);have f1:=hb2 320000064 (by decide);have f2:=hb2 320000128 (by decide);have f3:=hb2 320576384 (by decide);have g1:=(g1.of_eq (aaf:=aal) (by rw[hb2 320576130 (by decide)];simp only[aa,Nat.reduceEqDiff,if_false]));simp only[go_sem,d0,d1,d2] at f0 f1 f2 f3;simp only[go_sem,f2,f3,s17,a7 pm,e00];first
   |exact WW (by decide) (g1.of_eq (by simp only[aa,Nat.reduceEqDiff,if_false])) (g2.of_eq (by simp only[aa,Nat.reduceEqDiff,if_false]))
   |trace_state
 rw[if_neg hc];have hne:zX (F:Int) X.1 (F:Int) Y.1≠0:=fun h=>hc (Cy.1 h).2;generalize zX (F:Int) X.1 (F:Int) Y.1=e at*;have e1:(e !=0)=true:=by simpa using hne
 refine aJ c5 ?_;simp only[go_sem,i5,s8,s16,s13,a7 pc,a7 pl,e00,eFF];refine Ky pa lo1 fun c aao g1 hb1=>?_;have d0:=hb1 320000000 (by decide);have d1:=hb1 320000064 (by decide);have d2:=hb1 320000128 (by decide);simp only[go_sem] at d0 d1 d2;simp only[go_sem,d1,s13];refine Ky pb lo2 fun d aal g2 hb2=>?_;have f0:=hb2 320000000 (by decide);have f1:=hb2 320000064 (by decide);have f2:=hb2 320000128 (by decide);have f3:=hb2 320576384 (by decide);simp only[go_sem,d0,d1,d2] at f0 f1 f2 f3;simp only[go_sem,f2,f3,s17,a7 pm,e1];first|done|rfl
theorem JL(p:List bU)(hp:p.length<=1000000):aP S 7 [.one (.p (fN p)),.one (.p (fN p))] (rb true):=by
 refine aJ c7 ?_;have hlen:((p.length:Int)!=(p.length:Int))=false:=by simp
 simp only[go_sem,i7,hlen];refine aV (fun k env blk=>env 0=.one (.p (fN p))/\env 1=.one (.p (fN p))/\env 5=vi k) 0 p.length (aan _) ⟨rfl,rfl,rfl⟩ ?_;rintro k env blk hk ⟨h0,h1,h5⟩
 by_cases hlt:k<p.length
 .have aak:((k:Int)<(p.length:Int)):=by omega
  obtain⟨m,hm⟩:=ao hlt;have hmi:=qH hm;have w1:=ak (n:=k) (by omega);simp only[go_sem,i7_l1,h0,h1,h5,hlt,aak,hmi,bU.ps,w1,Hm,tv];first|done|exact aK|exact⟨aK,rfl⟩
 have:k=p.length:=by omega
 subst this;simp only[go_sem,i7_l1,i7_r2,h0,h5,aS];first|done|rfl
theorem Kz{Q:cU}{env:Env}{blk:aw}{os:List aj}{d:Option Nat}{f:Nat}{vs:List V}{s t1 z1 t2 z2:Nat}{es fs:List (List PV)}{u:PV}(hp:aP S f vs (.tup [.agg [ah t1 z1 es,ah t2 z2 fs],.one (.p u)]))(hlo:S.lone s=false)
  (hK:∀(c e:C) aaf,grown s t1 z1 es (.one c) aaf->grown (s+1) t2 z2 fs (.one e) aaf->(∀i,i≠s->i≠s+1->aaf i=blk i)->RN S .all os Q (put env d (.tup [.agg [c,e],.one (.p u)])) aaf):gP S .all (.pc f vs [] s) d os Q env blk:=by
 obtain⟨h1,h2,_⟩:=cD (blk:=blk) (s:=s) (ty:=t1) (z:=z1) (es:=es);have e0:∀(b b':aw) (k:Nat) (r:RC),b' k=b k->dY b k r=dY b' k r:=by
  intro b b' k r h;cases r with
  |p v=>rfl
  |own ty sz es=>simp only[dY,h]
 have e2:dY blk (s+1) (ah t2 z2 fs)=dY (app (dY blk s (ah t1 z1 es)).2 blk) (s+1) (ah t2 z2 fs):=e0 _ _ _ _ (h2 (s+1) (by omega));obtain⟨k1,k2,_⟩:=cD (blk:=app (dY blk s (ah t1 z1 es)).2 blk) (s:=s+1) (ty:=t2) (z:=z2) (es:=fs);rw[<- e2] at k1 k2;have acX:∀(a b:List jS) (c:aw),app (a++b) c=app b (app a c):=by
  intro a
  induction a with
  |nil=>intro b c;rfl
  |cons x a ih=>intro b c;exact ih b _
 refine(aq (v:=.tup [.agg [(dY blk s (ah t1 z1 es)).1,(dY blk (s+1) (ah t2 z2 fs)).1],.one (.p u)]) (u:=(dY blk s (ah t1 z1 es)).2++(dY blk (s+1) (ah t2 z2 fs)).2) hp ?_).2 (hK _ _ _ ?_ ?_ ?_)
 .rw[hlo,bl];unfold land;rw[if_pos (.inl rfl)];simp[rV,dp,dJ,bQ,gA,iR,fg,dM,dY]
 .rw[acX];exact h1.of_eq (k2 s (by omega))
 .rw[acX];exact k1
 intro i a b;rw[acX,k2 i b,h2 i a]
theorem P9{k:Int}(h:k5 k):E0 k=true:=by unfold k5 at h;rcases h with rfl|rfl|rfl|rfl|rfl<;>rfl
theorem uK(hcl:dw){n:Nat}{A B:List Let}(h1:1<=n)(h2:n<=20000)(ck1:ay (F:Int) A=0)(ck2:ay (F:Int) B=0)(he:(fd F n A).1=(fd F n B).1):Q6 F A (fd F n A).2.1 F B (fd F n B).2.1=true:=by
 obtain⟨K,k1,k2⟩:=qJ hcl h1 h2 ck1;obtain⟨L,l1,l2⟩:=qJ hcl h1 h2 ck2;have s1:wW (fd F n A).2.1=true:=aba.2 fun m hm=>P9 (k1.kind m hm);have s2:wW (fd F n B).2.1=true:=aba.2 fun m hm=>P9 (l1.kind m hm);have a1:AZ F A (fd F n A).2.1=some K:=by unfold AZ;rw[if_pos s1];exact k1.rep
 have a2:AZ F B (fd F n B).2.1=some L:=by unfold AZ;rw[if_pos s2];exact l1.rep
 have hKL:js K=js L:=by rw[<- k2,<- l2];exact he
 unfold Q6;rw[a1,a2];simp[hKL]
theorem yI(hcl:dw){n:Nat}{A:List Let}(h1:1<=n)(h2:n<=20)(hA:A.length<=30)(ck1:ay (F:Int) A=0):(fd F n A).2.1.length<=1000:=by obtain⟨K,k1,_⟩:=qJ hcl h1 (by omega) ck1;have:=k1.len;have h3:=jN A;have hb:(A.length+2)*n<=32*20:=Nat.mul_le_mul (by omega) h2;omega
theorem K5{f:Int}(h:ay f ls=0):∃F:Nat,f=(F:Int):=by
 by_cases hne:ls=[]
 .subst hne;unfold ay at h;rw[if_neg (by decide)] at h;by_cases hf:f<0\/40<f
  .rw[if_pos hf] at h;cases h
  exact abX (show 0<=f by omega)
 obtain⟨F,e,_⟩:=jh h hne;exact⟨F,e⟩
theorem Q4:((List.range 41).all fun F=>(List.range (F+1)).all fun q=>ay (F:Int) (GN q)==0)=true:=by kernel_rfl
theorem I8{g:Nat}(hF:F<=40)(hg:g<=F):ay (F:Int) (GN g)=0:=by have h:=aba.1 Q4 F (aaX.2 (by omega));have h:=aba.1 h g (aaX.2 (by omega));exact beq_iff_eq.1 h
theorem Q5(h:ay (F:Int) []=0):F<=40:=by
 unfold ay at h;rw[if_neg (by decide)] at h;by_cases hf:(F:Int)<0\/40<(F:Int)
 .rw[if_pos hf] at h;cases h
 omega
theorem Va(h:ay (F:Int) ls=0)(m:bU)(hk:k5 m.k):
  (∃L,km F ls m=some L/\ay (F:Int) L=0/\L.length<=ls.length+4/\aP S 38 [bj F ls,pR m] (jr F L))\/(km F ls m=none/\ ∃e,e≠0/\aP S 38 [bj F ls,pR m] (gE e)):=by
 by_cases hne:ls=[]
 .subst hne;have hF:=Q5 h;have pa:=U4 (F:=F) hF m.k m.a m.b m.c m.l m.o m.s;unfold XR at pa;unfold km;rw[if_pos rfl];by_cases hA:aQ F [] m.k m.a m.b m.c m.l m.o m.s=true
  .rw[if_pos hA] at pa ⊢;obtain⟨bv,_,_,e,hb,_⟩:=Wg hA;exact .inl ⟨_,rfl,I8 hF (by omega),by simp,pa⟩
  rw[if_neg hA] at pa ⊢;exact .inr ⟨rfl,2,by decide,pa⟩
 obtain⟨G,e,g⟩:=jh h hne;have:F=G:=by omega
 subst this;have pa:=Je g hk m.a m.b m.c m.l m.o m.s;unfold km;rw[if_neg hne];rcases Vb g hk m.a m.b m.c m.l m.o m.s with ⟨e,he,h1⟩|⟨M,h1,h2,h3,L,h4,rfl⟩
 .rw[h1] at pa;refine .inr ⟨?_,e,he,pa⟩;unfold tF at h1;by_cases hA:aQ F ls m.k m.a m.b m.c m.l m.o m.s=true
  .rw[if_pos hA] at h1 ⊢;cases hM:jW F ls m.k m.a.toNat m.b.toNat m.c.toNat m.l m.o m.s with
   |none=>rfl
   |some M=>
    rw[hM] at h1;dsimp only;by_cases hc:(400:Int)<(ls.length:Int)+(bK m.k).1\/(100:Int)<((aA Let.aD ls/2:Nat):Int)+(bK m.k).2
    .rw[if_pos hc]
    have e2:GD F ls m.k (some M)=jr F (lf M):=if_neg hc;rw[e2] at h1;exact absurd h1 (JQ he)
  rw[if_neg hA]
 rw[h1] at pa;refine .inl ⟨lf L,?_,h2,?_,pa⟩
 .rw[if_pos h3,h4];dsimp only;unfold tF at h1;rw[if_pos h3,h4] at h1;by_cases hc:(400:Int)<(ls.length:Int)+(bK m.k).1\/(100:Int)<((aA Let.aD ls/2:Nat):Int)+(bK m.k).2
  .have e2:GD F ls m.k (some L)=gE 7:=if_pos hc;rw[e2] at h1;exact absurd h1.symm (JQ (by decide))
  rw[if_neg hc]
 have:=BN h4;rw[zu];omega
theorem ZX{ms:List bU}(h:∀m∈ms,k5 m.k):Jf F ms:=fun _ m hm h1=>Va h1 m (h m hm)
theorem mt(hcl:dw){n:Nat}{A:List Let}(h1:1<=n)(h2:n<=20000)(ck1:ay (F:Int) A=0):Jf F (fd F n A).2.1:=by obtain⟨K,k1,_⟩:=qJ hcl h1 h2 ck1;exact ZX k1.kind
theorem uq{blk:aw}{s:Nat}{e:Int}(hlo:S.lone s=false):land blk [] s ((QG e).bn (S.lone s))=some (.tup [.agg [.p .nils,.p .nils],.one (.p (.int .i64 e))],[]):=by rw[hlo];rfl
theorem PE:S.lone 192192192=false:=by kernel_rfl
theorem PD:S.lone 192384192=false:=by kernel_rfl
theorem PC:S.lone 192704192=false:=by kernel_rfl
theorem wa{site:Nat}{p:List bU}{c:C}{blk:aw}(h:grown site md 7 (mP p) (.one c) blk):∃r,∀B:aw,B site=blk site->Go.Abs.snap B cG c=some (fN p,r):=by obtain⟨r,h1,_⟩:=h.xW;exact⟨r,h1⟩
theorem MD(hk:aP S 4 [] (rb true))(hcl:dw){n:Nat}{A B:List Let}(hA:A.length<=30)(hB:B.length<=30)(h1:1<=n)(h2:n<=20)(ck1:ay (F:Int) A=0)(ck2:ay (F:Int) B=0)(he:(fd F n A).1=(fd F n B).1):aP S 3 [bj F A,bj F B,vi n] (rb true):=by
 have pj1:=vv hcl h1 (show n<=20000 by omega) ck1 ck2;have pj2:=vv hcl h1 (show n<=20000 by omega) ck2 ck1;have pj3:=vv hcl h1 (show n<=20000 by omega) ck1 ck1;rw[if_pos he] at pj1;rw[if_pos he.symm] at pj2;rw[if_pos rfl] at pj3;have la:=yI hcl h1 h2 hA ck1;have lb:=yI hcl h1 h2 hB ck2;have p1:=xx hcl (mt hcl h1 (show n<=20000 by omega) ck1) (mt hcl h1 (show n<=20000 by omega) ck2) ck1 ck2 (by omega) (by omega) la lb;have p2:=xx hcl (mt hcl h1 (show n<=20000 by omega) ck2) (mt hcl h1 (show n<=20000 by omega) ck1) ck2 ck1 (by omega) (by omega) lb la
 have p3:=xx hcl (mt hcl h1 (show n<=20000 by omega) ck1) (mt hcl h1 (show n<=20000 by omega) ck1) ck1 ck1 (by omega) (by omega) la la;rw[uK hcl h1 (by omega) ck1 ck2 he] at p1;rw[uK hcl h1 (by omega) ck2 ck1 he.symm] at p2;rw[uK hcl h1 (by omega) ck1 ck1 rfl] at p3;have sp:=JL (fd F n A).2.1 (by omega);have sq:=JL (fd F n B).2.1 (by omega);have pc:=se (F:Int) A (by omega);rw[ck1] at pc;generalize (fd F n A).2.1=p at*;generalize (fd F n B).2.1=q at*;have z1:¬((30:Int)<(A.length:Int)):=by omega
 have z2:¬((30:Int)<(B.length:Int)):=by omega
 have z3:¬((n:Int)<1):=by omega
 have z4:¬((20:Int)<(n:Int)):=by omega
 have e00:((0:Int)!=0)=false:=by decide
 refine aJ c3 ?_;simp only[go_sem,i3,z1,z2,z3,z4,s5];refine Kz pj1 PE fun c d aao g1 g2 hb1=>?_;obtain⟨r1,sn1⟩:=wa g1;obtain⟨r2,sn2⟩:=wa g2;have q0:=hb1 192000000 (by decide) (by decide);have q64:=hb1 192000064 (by decide) (by decide);simp only[go_sem] at q0 q64;simp only[go_sem,q0,q64,sn1,sn2,s6,au p1,au p2,s5];refine Kz pj2 PD fun c2 d2 aal g3 g4 hb2=>?_
 obtain⟨r3,sn3⟩:=wa g3;obtain⟨r4,sn4⟩:=wa g4;have q0b:=hb2 192000000 (by decide) (by decide);have q64b:=hb2 192000064 (by decide) (by decide);have q7b:=hb2 192192448 (by decide) (by decide);have t1:=hb2 192192192 (by decide) (by decide);have t2:=hb2 192192193 (by decide) (by decide);simp only[go_sem,q0,q64] at q0b q64b q7b t1 t2;simp only[go_sem,q0b,q7b,t1,t2,sn1,sn2,sn3,sn4,s7,au sp,au sq,s5];refine Kz pj3 PC fun c3 d3 aaB g5 g6 hb3=>?_;obtain⟨r5,sn5⟩:=wa g5;obtain⟨r6,sn6⟩:=wa g6;have q0c:=hb3 192000000 (by decide) (by decide);have q64c:=hb3 192000064 (by decide) (by decide);simp only[go_sem,q0b,q64b] at q0c q64c;simp only[go_sem,q0c,sn5,sn6,s6,s8,au p3,a7 pc,e00,s4,au hk];first|done|rfl
theorem Cb(hk:aP S 4 [] (rb true))(hcl:dw){f g:Int}{n:Nat}{A B:List Let}(hA:A.length<=30)(hB:B.length<=30)(h1:1<=n)(h2:n<=20)(k1:∃e,e≠0/\aP S 5 [bj f A,bj g B,vi n] (QG e))(k2:∃e,e≠0/\aP S 5 [bj g B,bj f A,vi n] (QG e)):aP S 3 [bj f A,bj g B,vi n] (rb true):=by
 obtain⟨e,he,pj1⟩:=k1;obtain⟨e',he',pj2⟩:=k2;have pc:=se f A (by omega);have z1:¬((30:Int)<(A.length:Int)):=by omega
 have z2:¬((30:Int)<(B.length:Int)):=by omega
 have z3:¬((n:Int)<1):=by omega
 have z4:¬((20:Int)<(n:Int)):=by omega
 have e00:((0:Int)!=0)=false:=by decide
 have m1:(e==0)=false:=by simpa using he
 have m2:(e'==0)=false:=by simpa using he'
 by_cases ck:ay f A=0
 .obtain⟨F,rfl⟩:=K5 ck;have pj3:=vv hcl h1 (show n<=20000 by omega) ck ck;rw[if_pos rfl] at pj3;have la:=yI hcl h1 h2 hA ck;have p3:=xx hcl (mt hcl h1 (show n<=20000 by omega) ck) (mt hcl h1 (show n<=20000 by omega) ck) ck ck (by omega) (by omega) la la;rw[uK hcl h1 (by omega) ck ck rfl] at p3;rw[ck] at pc;generalize (fd F n A).2.1=p at*;refine aJ c3 ?_;simp only[go_sem,i3,z1,z2,z3,z4,s5,aq pj1 (uq PE),aq pj2 (uq PD),m1,m2];refine Kz pj3 PC fun c3 d3 aaB g5 g6 hb3=>?_
  obtain⟨r5,sn5⟩:=wa g5;obtain⟨r6,sn6⟩:=wa g6;have q0c:=hb3 192000000 (by decide) (by decide);have q64c:=hb3 192000064 (by decide) (by decide);simp only[go_sem] at q0c q64c;simp only[go_sem,q0c,sn5,sn6,s6,s8,au p3,a7 pc,e00,s4,au hk];first|done|rfl
 obtain⟨e3,he3,pj3⟩:=yV (B:=A) (g:=f) (by omega) (by omega) h1 (show n<=20000 by omega) (.inl ck);have m3:(e3==0)=false:=by simpa using he3
 have m4:(e3 !=0)=true:=by simpa using he3
 have m5:(ay f A==0)=false:=by simpa using ck
 refine aJ c3 ?_;simp only[go_sem,i3,z1,z2,z3,z4,s5,aq pj1 (uq PE),aq pj2 (uq PD),aq pj3 (uq PC),m1,m2,m3,m4,m5,s8,a7 pc,s4,au hk];first|done|rfl
theorem Is(hk:aP S 4 [] (rb true)){f g n:Int}{A B:List Let}(h:¬(A.length<=30/\B.length<=30/\1<=n/\n<=20)):aP S 3 [bj f A,bj g B,vi n] (rb true):=by
 refine aJ c3 ?_;by_cases y1:(30:Int)<(A.length:Int)
 .simp only[go_sem,i3,y1,s4,au hk];first|done|rfl
 by_cases y2:(30:Int)<(B.length:Int)
 .simp only[go_sem,i3,y1,y2,s4,au hk];first|done|rfl
 by_cases y3:n<1
 .simp only[go_sem,i3,y1,y2,y3,s4,au hk];first|done|rfl
 have y4:(20:Int)<n:=by omega
 simp only[go_sem,i3,y1,y2,y3,y4,s4,au hk];first|done|rfl
theorem Ip(hcl:dw)(hk:aP S 4 [] (rb true))(f:Int)(A:List Let)(g:Int)(B:List Let)(n:Int):aP S 3 [bj f A,bj g B,vi n] (rb true):=by
 by_cases h:A.length<=30/\B.length<=30/\1<=n/\n<=20
 .obtain⟨hA,hB,h1,h2⟩:=h;obtain⟨m,rfl⟩:=abX (show 0<=n by omega);have h1:1<=m:=by omega
  have h2:m<=20:=by omega
  by_cases hb:ay f A≠0\/ay g B≠0\/f≠g
  .refine Cb hk hcl hA hB h1 h2 (yV (by omega) (by omega) h1 (by omega) hb) (yV (by omega) (by omega) h1 (by omega) ?_);rcases hb with h|h|h
   .exact .inr (.inl h)
   .exact .inl h
   exact .inr (.inr fun e=>h e.symm)
  have c1:ay f A=0:=Classical.byContradiction fun h=>hb (.inl h);have c2:ay g B=0:=Classical.byContradiction fun h=>hb (.inr (.inl h));have c3:f=g:=Classical.byContradiction fun h=>hb (.inr (.inr h));subst c3;obtain⟨F,rfl⟩:=K5 c1;by_cases he:(fd F m A).1=(fd F m B).1
  .exact MD hk hcl hA hB h1 h2 c1 c2 he
  have k1:=vv hcl h1 (show m<=20000 by omega) c1 c2;have k2:=vv hcl h1 (show m<=20000 by omega) c2 c1;rw[if_neg he] at k1;rw[if_neg fun h=>he h.symm] at k2;exact Cb hk hcl hA hB h1 h2 ⟨9,by decide,k1⟩ ⟨9,by decide,k2⟩
 exact Is hk h
end
end Go.Abs
namespace Go.Proofs.YtkfngecllhhooaaGreatDoor.fnEaseJoined
open Go.Abs Go.ChangeShapes Go.WideShapes Go.ChangeAt Go.RowKit
theorem wB {P : Program} {N n : Nat} {t : TypeId} {fs : Array Field} {p : List PV} (hu : P.underlying t = some (.struct fs)) (h : iO P N (n + 1) t p) :
    ∃parts : List (List PV), p = parts.flatten ∧ parts.length = fs.toList.length ∧ ∀(i : Nat) (f : Field) (x : List PV), fs.toList[i]?= some f → parts[i]?= some x → iO P N n f.type x := by
  simp only [iO, hu] at h;exact h
theorem TV {es : List (List PV)} (h :∀x ∈ es, ∃l : Let, x = l.ps) :∃ls : List Let, es = ls.map Let.ps := by
  induction es with
  | nil => exact ⟨[], rfl⟩
  | cons e es ih =>obtain ⟨l, rfl⟩ := h e (by simp);obtain ⟨ls, rfl⟩ := ih fun x hx => h x (by simp [hx]);exact ⟨l :: ls, rfl⟩
theorem W4 {N n : Nat} {p : List PV} (h : iO S.P N (n + 1 + 1) 38 p) :∃l : Let, p = l.ps := by
  obtain ⟨parts, rfl, hl, hp⟩ := wB Tryz.underlying38 h;rcases parts with _ | ⟨p0, _ | ⟨p1, _ | ⟨p2, _ | ⟨p3, _ | ⟨p4, _ | ⟨p5, _ | ⟨p6, r⟩⟩⟩⟩⟩⟩⟩ <;> first
    | (simp at hl; done)
    | skip
  obtain ⟨k, rfl, _⟩ := lS Tryz.underlying36 (hp 0 _ _ rfl rfl);obtain ⟨g, rfl, _⟩ := lS Tryz.underlying3 (hp 1 _ _ rfl rfl);obtain ⟨r, rfl, _⟩ := lS Tryz.underlying3 (hp 2 _ _ rfl rfl);obtain ⟨i, rfl, _⟩ := lS Tryz.underlying3 (hp 3 _ _ rfl rfl);obtain ⟨s, rfl, _⟩ := lS Tryz.underlying3 (hp 4 _ _ rfl rfl);obtain ⟨o, rfl⟩ := MK Tryz.underlying4 (hp 5 _ _ rfl rfl);exact ⟨⟨k, g, r, i, s, o⟩, rfl⟩
theorem KX {N n : Nat} {p : List PV} (h : iO S.P N (n + 1 + 1 + 1 + 1) 24 p) :∃(k : Int) (ls : List Let), p = [.int .i64 k,.sl (ls.map Let.ps)] := by
  obtain ⟨parts, rfl, hl, hp⟩ := wB Tryz.underlying24 h;rcases parts with _ | ⟨p0, _ | ⟨p1, _ | ⟨p2, r⟩⟩⟩ <;> first
    | (simp at hl; done)
    | skip
  obtain ⟨k, rfl, _⟩ := lS Tryz.underlying3 (hp 0 _ _ rfl rfl);obtain ⟨es, rfl, _, he⟩ := IA Tryz.underlying22 (hp 1 _ _ rfl rfl);obtain ⟨ls, rfl⟩ := TV fun x hx => W4 (he x hx);exact ⟨k, ls, rfl⟩
theorem law_any (pvss : List (List PV)) (h : EC S.P maxLen 4 Tryz.f3.params.toList pvss) : aP S 3 (uN S.P Tryz.f3.params.toList pvss) (.one (.p (.bool true))) := by
  have hp : Tryz.f3.params.toList = [24, 24, 3] := by rw [Tryz.params3]
  rw [hp] at h ⊢;rcases pvss with _ | ⟨a0, _ | ⟨a1, _ | ⟨a2, _ | ⟨a3, z3⟩⟩⟩⟩
  · exact h.elim
  · exact h.2.elim
  · exact h.2.2.elim
  · obtain ⟨f0, ls0, rfl⟩ := KX (n := 0) h.1
    obtain ⟨f1, ls1, rfl⟩ := KX (n := 0) h.2.1;obtain ⟨x2, rfl, _⟩ := lS (n := 3) Tryz.underlying3 h.2.2.1;have e3 :∀(f : Int) (a : List Let), Es S.P 24 [.int .i64 f,.sl (a.map Let.ps)] = bj f a := fun f a => Hb (P := S.P) Tryz.underlying24;have e1 :∀x : Int, Es S.P 3 [.int .i64 x] = vi x := fun x => Rq (P := S.P) Tryz.underlying3 (fun fs h => by cases h);simp only [uN, e3, e1];exact Ip Q0 T4 f0 ls0 f1 ls1 x2
  · exact h.2.2.2.elim
theorem gTab : Tryz.prog.globalNamed w5 = some 0 := by kernel_rfl
theorem Qt : (Tryz.prog.globals[0]?).map (·.type) = some 200 := by kernel_rfl
theorem Q8 : Tryz.prog.cellsOf 200 = 20 := by kernel_rfl
theorem Q7 : Tryz.prog.cellsOf 184 = 1 := by kernel_rfl
/-- what the row's list gives: the table of the powers of ten -/
theorem table {W : World} (h : laidMetH Tryz.prog Rows.easeJoinedRow.laid W) : G W := by
  have h1 : laidMet Tryz.prog Rows.easeJoinedRow.laid W := h;have h2 := h1.tail.tail;have e : (Rows.laid_internal_strconv_uint64pow10 : DataW Unit) = Lib.tabData .u64 Lib.pow10Tab := by kernel_rfl
  rw [e] at h2;exact Lib.tabIs_of_head (rest := []) gTab Qt Tryz.underlying200 Tryz.underlying184 Q7 Q8 h2
end Go.Proofs.YtkfngecllhhooaaGreatDoor.fnEaseJoined
namespace Go.Proofs.YtkfngecllhhooaaGreatDoor.fnEaseJoined
open Go.Abs Go.ChangeShapes Go.WideShapes Go.ChangeAt Go.RowKit
theorem own : ownKnob Tryz.prog.godebug = none := by kernel_rfl
theorem QX (H : Type) (enc : TypeId×Value → H) (W : World) (base : Nat) (args : Array Value) (ds gs : List (DataW H)) (before : List MemPlace)
    (hval :∀(j : Nat) t v, Tryz.f3.params[j]?= some t → args[j]?= some v → Value.okWide Tryz.prog W .any base t v)
    (hW : DataW.Whole enc Tryz.prog Tryz.f3.params.toList Rows.easeJoinedSpec.vars false W args.toList ds gs before) (hL : laidMetH Tryz.prog Rows.easeJoinedRow.laid W) :
    Calls Tryz.prog 3 args W fun e W' =>∃v, e =.returned v ∧ Rows.easeJoinedSpec.post enc Tryz.prog Tryz.f3 false true false false W args v W' := by
  have hk :∀t ∈ Tryz.f3.params.toList, iB S.P 4 t = true := by
    rw [Tryz.params3];intro t ht;have e : t = 24 ∨ t = 3 := by simpa using ht
    have k0 : iB S.P 4 24 = true := by kernel_rfl
    have k1 : iB S.P 4 3 = true := by kernel_rfl
    rcases e with e | e
    · exact e ▸ k0
    · exact e ▸ k1
  have hfit :∀d ∈ ds, Fits maxLen d := by obtain ⟨p, q, hA, _⟩ := hW;exact (tL hk hA).1
  exact DL S_ok (fun w h => Uc h) (fn := Tryz.f3) (s := Rows.easeJoinedSpec) rfl
    (fun H ds hd => by
      rw [Tryz.params3] at hd
      match ds, hd with
      | [d0, d1, d2], _ => rfl) (tb := 4) (by kernel_rfl) Tryz.underlying4 hk law_any hval hW (table hL) hfit

noncomputable def XF (d : DataW Unit) : Array Value :=
  match d with
  | .agg l => (l.map fun
    | .lit (.int k z) => Value.int k z
    | _ => undef).toArray
  | _ => #[]
noncomputable def W9 (d : DataW Unit) : Obj → Obj
  | .cells _ t frozen =>.cells (XF d) t frozen
  | o => o
noncomputable def vp (os : Os) : World :={ World.holding Tryz.prog os ⟨#[], #[], []⟩ with heap := (((World.holding Tryz.prog os ⟨#[], #[], []⟩).heap.modify 1 (W9 Rows.laid_math_bits_deBruijn32tab)).modify 2 (W9 Rows.laid_math_bits_deBruijn64tab)).modify 0 (W9 Rows.laid_internal_strconv_uint64pow10) }
theorem PX (os : Os) : laidMet Tryz.prog Rows.easeJoinedRow.laid ((vp os).forCall (fun _ _ => 0) ⟨#[], #[Value.agg #[.int .i64 0,.slice none 0 0],.agg #[.int .i64 0,.slice none 0 0],.int .i64 0], []⟩).memory :=laidMet_of_run' 8 (by kernel_rfl) (by kernel_rfl)
theorem reads (os : Os) {H : Type} (enc : TypeId×Value → H) :∃places, DataW.whole enc Tryz.prog ((vp os).forCall (fun _ _ => 0) ⟨#[], #[Value.agg #[.int .i64 0,.slice none 0 0],.agg #[.int .i64 0,.slice none 0 0],.int .i64 0], []⟩).memory Tryz.f3.params.toList Rows.easeJoinedSpec.vars false #[Value.agg #[.int .i64 0,.slice none 0 0],.agg #[.int .i64 0,.slice none 0 0],.int .i64 0].toList 8 = some ([.agg [.lit (.int .i64 0),.nil],.agg [.lit (.int .i64 0),.nil],.lit (.int .i64 0)], [], places) :=
  ⟨[], by kernel_rfl⟩

theorem lifted (os : Os) (started : os.Started) (H : Type) (enc : TypeId×Value → H) (F : Stop.Interp) :
    ReturnsInHanded {} Tryz.checked os 3 .any ((OpenSpec.ofChange Rows.easeJoinedSpec).preRow enc Tryz.prog Tryz.f3 Rows.easeJoinedRow.domain false Rows.easeJoinedRow.laid) (((OpenSpec.ofChange Rows.easeJoinedSpec).at F).post enc Tryz.prog Tryz.f3 false true false false) := by
  obtain ⟨places, hx⟩ := reads os enc;refine returnsInHanded_of_row (C := Tryz.checked) (s := (OpenSpec.ofChange Rows.easeJoinedSpec)) own started (by kernel_rfl) Tryz.func3
    (witness_row_at (enc := enc) (C := Tryz.checked) false (vp os) #[Value.agg #[.int .i64 0,.slice none 0 0],.agg #[.int .i64 0,.slice none 0 0],.int .i64 0] rfl (by kernel_rfl) (by kernel_rfl) (by kernel_rfl)
      (OpenSpec.preRow_of_cond 8 hx (by kernel_rfl) (fun k hk => by cases hk) (by kernel_rfl) (PX os))) ?_
  intro W base args ds gs before hval hW _ _ _ hL _ _;exact QX H enc W base args ds gs before hval hW hL
end Go.Proofs.YtkfngecllhhooaaGreatDoor.fnEaseJoined
namespace Go.Proofs.YtkfngecllhhooaaGreatDoor.fnEaseJoined
open Go.Abs Go.ChangeShapes Go.WideShapes Go.ChangeAt Go.RowKit
theorem said : Rows.EaseJoinedSaid :=
  OpenClaim.holds_of_cond 3 Tryz.f3 rfl rfl rfl rfl rfl rfl rfl ⟨rfl, rfl, rfl, rfl, rfl⟩ rfl rfl rfl rfl rfl (by kernel_rfl) Tryz.func3 closed
    (of_decide_eq_true (by kernel_rfl)) (by unfold Func.isWrapper; first | (rw [if_pos (by decide +kernel)]; kernel_rfl) | (rw [if_neg (by decide +kernel)]; exact ⟨rfl, rfl⟩))
    (fun os started H enc _ F => by rw [OpenClaim.pre_eq_preRow]; exact lifted os started H enc F)

theorem plain (f : FuncId) (fn : Func) (hf : Tryz.pinned.checked.prog.funcNamed Rows.easeJoinedRow.func = some f) (hfn : Tryz.pinned.checked.prog.funcs[f]?= some fn) :
    false = Tryz.pinned.checked.prog.looks [] ∧ ∀(j : Nat) t, fn.params[j]?= some t → Tryz.pinned.checked.prog.wantsStandIn t = false := by
  obtain rfl : f = 3 := Option.some.inj ((show Tryz.prog.funcNamed Rows.easeJoinedRow.func = some 3 by kernel_rfl).symm.trans hf) |>.symm
  obtain rfl : fn = Tryz.f3 := (Option.some.inj (Tryz.func3.symm.trans hfn)).symm;refine ⟨by kernel_rfl, ?_⟩
  · intro j t ht
    rw [Tryz.params3] at ht;have e : t = 24 ∨ t = 3 := by simpa using Array.mem_of_getElem? ht
    have k0 : Tryz.prog.wantsStandIn 24 = false := by kernel_rfl
    have k1 : Tryz.prog.wantsStandIn 3 = false := by kernel_rfl
    rcases e with e | e
    · exact e ▸ k0
    · exact e ▸ k1

theorem Wm : Rows.easeJoinedRow.wfByText (OpenSpec.ofChange Rows.easeJoinedSpec) = true := by kernel_rfl
theorem mainIs : Tryz.pinned.checked.prog.mainIs = some ((true, "674307f3272d45b9033bc1b65d434530ba5253da3580eb8a838e204796caa492").1, (true, "674307f3272d45b9033bc1b65d434530ba5253da3580eb8a838e204796caa492").2.toList) := by kernel_rfl
theorem card : Rows.EaseJoinedCardSaid :=Claim7.holds_tied_plain_at .later [] _ _ _ _ said (fun _ h => by cases h) Wm (fun _ h => by cases h) easeJoined_row_tie rfl ⟨rfl, rfl⟩ mainIs rfl plain goes
end Go.Proofs.YtkfngecllhhooaaGreatDoor.fnEaseJoined
