/-
  EasePaths: for every code and every list of moves the call returns true and the arguments read as they did. It holds for every input that the row speaks of; the tables that the row lists hold what the text lays.
-/
import Derived.Test.YtfohniicngjeoaaGreatDoorRh
import Derived.Test.YtfohniicngjeoaaGreatDoorTie
import Derived.Deep.DeepHandedRow
import Derived.Deep.DeepLaidRun
import Derived.Stop.LaidErr
import Derived.Test.YtfohniicngjeoaaGreatDoorSb
import Derived.Test.YtfohniicngjeoaaGreatDoorTa
import Derived.Test.YtfohniicngjeoaaGreatDoorFa
import Derived.Test.YtfohniicngjeoaaGreatDoorGa
set_option linter.all false
set_option maxRecDepth 100000
set_option maxHeartbeats 16000000
namespace Go.Abs
section
variable{ls:List Let}{F limit:Nat}
theorem amP{f:Int}{n:Nat}(hl:ls.length<=1000000)(h1:1<=n)(h2:n<=20000):aI S 23 [dX f ls,vi n] (ri (cU f ls)):=by
 have pc:=ahN f ls hl;have a1:¬((n:Int)<1):=aa;have a2:¬((20000:Int)<(n:Int)):=aa;generalize cU f ls=e at*;refine aZ c23 ?_;by_cases h:e=0
 .subst h;have pV:((0:Int)!=0)=false:=ae;simp only[go_sem,i23,s36,eJ pc,pV,a1,a2];first|done|rfl
 have e1:(e !=0)=true:=by simpa using h
 simp only[go_sem,i23,s36,eJ pc,e1];first|done|rfl
theorem KG(cq:nQ){L0:List Let}(jQ:1<=limit)(j7:limit<=20000)(h0:cU (F:Int) L0=0):(iz F limit L0).2≠[]/\ ∀m∈(iz F limit L0).2,vI F L0 (iz F limit L0).2.length m:=by
 have h4:(fun i=>if i=512512000 then (1,some (.var [.p (.bool false)])) else (0,none):aA) 512512000=(1,some (.var [.p (.bool false)])):=if_pos rfl;generalize (fun i=>if i=512512000 then (1,some (.var [.p (.bool false)])) else (0,none):aA)=je at h4;have tG:=aeq (F:=F) (limit:=limit) (cc:=.p (cF L0)) (r0:=[]) h4 fun n=>rfl;have hac:wU (allow (S.ctx .all) 26 [V.agg [.p (.int .i64 F),.p (cF L0)],vi limit,JF 1] je):=⟨fun id h=>uR (by rw[h];kernel_rfl),XY,XW,XX,se (by rw[tG];simp)⟩;obtain⟨v,ao,_,hP⟩:=XS hac cq (F:=F) (limit:=limit) (L0:=L0) (gv:=1) (c0:=.p (cF L0)) (r0:=[]) (aj:=je) jQ j7 h0 (fun B hB=>rfl) nK.nil (fun i hi=>by cases hi) h4;obtain⟨s,g,_,_,_,_,aH,dy,_⟩:=hP;exact⟨aH,dy⟩
noncomputable def Gx (F:Nat) (a:List Let):Nat:=a.length+(if (zx F a).2 then 0 else 1)
theorem adh(cq:nQ){a:List Let}(jQ:1<=limit)(j7:limit<=20000)(qJ:cU (F:Int) a=0)(h2:(iz F limit (fX F a).2).1=2):Gx F (vm (iz F limit (fX F a).2).2).c+1<=Gx F a:=by
 obtain⟨OE,_,_⟩:=Qb qJ;obtain⟨aH,dy⟩:=KG cq jQ j7 OE.chk;have hb:∃x,(iz F limit (fX F a).2).2.getLast?=some x/\(zx F x.c).2=true:=ahl h2;obtain⟨x,hx,hr⟩:=hb;have L4:vm (iz F limit (fX F a).2).2=x:=by unfold vm;rw[hx];rfl
 have hs:=(dy _ (Pp aH).2).same;rw[L4] at hs ⊢;obtain⟨k1,k2⟩:=aph qJ;unfold Gx;rw[hr];simp only[if_true];by_cases hd:(zx F a).2=true
 .have:=k2 hd;rw[if_pos hd];omega
 rw[if_neg hd];omega
theorem agi{al:Al}{Q:dA}{ak:Env}{aj:aA}{c:aK}(h:W S al c (JJ (fun e b=>W S al (.loop c) Q e b) Q) ak aj):W S al (.loop c) Q ak aj:=by
 obtain⟨n,e,aC,ao,h1,h2⟩:=h;cases e with
 |normal=>obtain⟨m,e,cT,bh,h3,h4⟩:=h2;refine⟨max n m+1,e,cT,bh,?_,h4⟩;have h5:=yK S (mD (Fa n m) (Nat.le_succ _)) h1;have h6:=yK S (Hi n m) h3;simp only[exec] at h6 ⊢;have h7:=Pk S (Nat.le_succ (max n m)) (bN _) h6;rw[iter,h5];exact h7
 |exit i=>refine⟨n+1,_,_,_,?_,h2⟩;have h5:=yK S (Nat.le_succ n) h1;simp only[exec,iter,h5]
 |ret=>refine⟨n+1,_,_,_,?_,h2⟩;have h5:=yK S (Nat.le_succ n) h1;simp only[exec,iter,h5]
theorem ac7{f:Nat}{a:List Let}{p:List bd}(h:(iz F limit (fX F a).2).1=2):AY F limit (f+1) a p=AY F limit f (vm (iz F limit (fX F a).2).2).c (p++(fX F a).1++(vm (iz F limit (fX F a).2).2).w):=by rw[AY,if_pos h]
theorem ac6{f:Nat}{a:List Let}{p:List bd}(h:(iz F limit (fX F a).2).1≠2):AY F limit (f+1) a p=((th F (iz F limit (fX F a).2).2).n,p++(fX F a).1++(th F (iz F limit (fX F a).2).2).w,(iz F limit (fX F a).2).1==0):=by rw[AY,if_neg h]
theorem sa.round(cq:nQ){N a:List Let}{b:Nat}{p:List bd}(jQ:1<=limit)(j7:limit<=20000)(h:sa F N b a p){m:cN}(hm:m∈(iz F limit (fX F a).2).2):sa F N (b+limit) m.c (p++(fX F a).1++m.w)/\m.n=fB m.c:=by have hr:=h.red;obtain⟨aH,dy⟩:=KG cq jQ j7 hr.chk;have hg:=dy m hm;exact⟨hr.mem (hg.mono (XZ jQ)),hg.MR⟩
theorem am8(cq:nQ){N:List Let}(jQ:1<=limit)(j7:limit<=20000):∀(f:Nat) {a:List Let} {p:List bd} {b:Nat},Gx F a<f->sa F N b a p->∃K,sa F N (b+f*limit) K (AY F limit f a p).2.1/\(AY F limit f a p).1=fB K:=by
 intro f
 induction f with
 |zero=>intro a p b hm;omega
 |succ f ih=>
  intro a p b hm hP;by_cases h2:(iz F limit (fX F a).2).1=2
  .rw[ac7 h2];obtain⟨aH,dy⟩:=KG cq jQ j7 hP.red.chk;obtain⟨h3,_⟩:=hP.round cq jQ j7 (Pp aH).2;have h4:=adh cq jQ j7 hP.chk h2;obtain⟨K,k1,k2⟩:=ih aa h3;exact⟨K,by rw[show b+(f+1)*limit=b+limit+f*limit by rw[Nat.succ_mul];omega];exact k1,k2⟩
  rw[ac6 h2];obtain⟨aH,dy⟩:=KG cq jQ j7 hP.red.chk;obtain⟨h3,h4⟩:=hP.round cq jQ j7 (ahj (F:=F) aH);refine⟨_,⟨h3.chk,h3.rep,h3.kind,?_⟩,h4⟩;have h5:=h3.len;have h6:0<=f*limit:=bG _;rw[Nat.succ_mul];show(p++(fX F a).1++(th F (iz F limit (fX F a).2).2).w).length+(th F (iz F limit (fX F a).2).2).c.length<=_;omega
theorem anv(cq:nQ){N:List Let}(jQ:1<=limit)(j7:limit<=20000)(hN:N.length<=1000):∀(f:Nat) {a:List Let} {p:List bd} {b:Nat} {ak:Env} {aj:aA} {Q:dA},Gx F a<f->sa F N b a p->b+f*limit<=40000000->MkH F limit a p ak aj->
  (∀(aC:Env) (ao:aA),(mJ .all i8.results fun v aj=>iU aj v=some (MI F (AY F limit f a p))) .ret aC ao->Q .ret aC ao)->W S .all (.loop i8_l3) Q ak aj:=by
 intro f
 induction f with
 |zero=>intro a p b ak aj Q hm;omega
 |succ f ih=>
  intro a p b ak aj Q hm hP hb hI hQ;have cA:=hP.len;have hz:0<=f*limit:=bG _;rw[Nat.succ_mul] at hb;refine agi (anw cq jQ j7 hP.chk aa hI (fun aC ao h2 DP=>?_) fun aC ao h2 hr=>?_)
  .obtain⟨aH,dy⟩:=KG cq jQ j7 hP.red.chk;obtain⟨h3,_⟩:=hP.round cq jQ j7 (Pp aH).2;have h4:=adh cq jQ j7 hP.chk h2;exact ih aa h3 aa DP fun aC ao h=>hQ _ _ (by rw[ac7 h2];exact h)
  exact hQ _ _ (by rw[ac6 h2];exact hr)
theorem sa.start(h:cU (F:Int) ls=0):sa F (fB ls) 0 (fB ls) []:=⟨VF h,rfl,(fun m hm=>by cases hm),af⟩
theorem adb(ls:List Let):Gx F (fB ls)<ls.length+2:=by have:=GA ls;unfold Gx;split<;>omega
theorem am9(cq:nQ)(jQ:1<=limit)(j7:limit<=20000)(h:cU (F:Int) ls=0):∃K,sa F (fB ls) ((ls.length+2)*limit) K (zk F limit ls).2.1/\(zk F limit ls).1=fB K:=by obtain⟨K,k1,k2⟩:=am8 cq jQ j7 (ls.length+2) (adb ls) (sa.start h);rw[kU] at k1;exact⟨K,k1,k2⟩
theorem ac8(cq:nQ)(jQ:1<=limit)(j7:limit<=20000)(h:cU (F:Int) ls=0):aI S 8 [dX F ls,vi limit] (MI F (zk F limit ls)):=by
 have rJ:=Dv h;have pl:=amP (f:=F) (ls:=ls) (n:=limit) aa jQ j7;rw[h] at pl;have pn:=adE cq (f:=F) (ls:=ls) aa h;have a3:(cO (jV ls)).norm=cF (fB ls):=Rm (jV ls);have pV:((0:Int)!=0)=false:=ae;generalize cO (jV ls)=q at*;refine aZ c8 ?_;simp only[go_sem,i8,s23,eJ pl,pV,s24,cJ pn ED];have lI:=GA ls;have hb:(ls.length+2)*limit<=402*20000:=Nat.mul_le_mul aa j7;refine anv cq jQ j7 aa (ls.length+2) (adb ls) (sa.start h) aa ⟨rfl,rfl,rfl,rfl,⟨.p (.int .i64 0),.p .nils,.p .nils,.p (.bool false),?_⟩,⟨q,?_,a3⟩,⟨.p .nils,?_,grown.nil⟩⟩ fun aC ao hr=>?_
 .simp only[go_sem]
 .simp only[go_sem]
 .simp only[go_sem]
 exact hr
theorem aeA{z:List aQ}{T B:Nat->Nat->Nat}{S:List Nat}(c:Cz F z T B S)(h0:∀x,z[0]?=some x->x.i.b=false)(hl:z.length<=400)(fv:aw Let.aB (aM z)<=200)(hF:F<=40){i:Nat}(h:HX (aM z) i):cU F (eU (aM z) i)=0:=by
 obtain⟨⟨x,hx,hp⟩,As⟩:=h;obtain⟨e,he,rfl⟩:=AW hx;have hd:e.p.d=true:=by
  obtain⟨s,hs⟩:=c.path;have hlen:0<z.length:=by have:=(aW.1 he).1;omega
  obtain⟨a,ha⟩:∃a,z[0]?=some a:=⟨z[0],s0 hlen⟩;have hb:s.b=false:=by rw[<- Jn hs ha];exact h0 a ha
  have:=(PN c.ok hs hb i e he).1;have hm:=aU he;have h2:=((c.ok e hm).pb hp).2;rw[this] at h2;have h3:dn (aM z) i=true:=by
   unfold dn;have:aw Let.aE ((aM z).take i)%2=0:=As
   simpa using this
  rw[h3] at h2;cases hq:e.p.d
  .rw[hq] at h2;cases h2
  rfl
 have c2:=c.aew i;have e1:aM (z.drop i++z.take i)=eU (aM z) i:=by unfold eU aM;rw[ll,List.map_drop,List.map_take]
 have ec:aw Let.aB (eU (aM z) i)=aw Let.aB (aM z):=KH _ _ _;have v7:z.drop i=e::z.drop (i+1):=by obtain⟨hl,e⟩:=aW.1 he;rw[<- e,r5]
 rw[<- e1];refine c2.check (x:=e) (r:=z.drop (i+1)++z.take i) (by rw[v7];rfl) hp hd ?_ ?_ hF
 .rw[gh,kO,iu];omega
 rw[e1,ec];exact fv
section
variable {F:Nat} {ls:List Let}
theorem aq6(g:dF F ls){i:Nat}(hi:i<ls.length)(hd:gV ls i=true):cU (F:Int) (eU ls i)=0/\fB (eU ls i)=fB ls:=by
 have he:=g.even;obtain⟨x,hx⟩:=aL hi;have hp:x.aE=true/\dn ls i=true:=by unfold gV at hd;rw[hx] at hd;exact Bool.and_eq_true_iff.1 hd
 have As:par ls i:=by have:=hp.2;unfold dn at this;exact beq_iff_eq.1 this
 have hn:0<ls.length:=iX.2 g.ne;refine⟨?_,?_⟩
 .have h:=aeA g.cz (fun x hx=>by rw[Bn hn] at hx;cases hx;rw[O9 g hn];rfl) (by rw[Bo];exact g.len) (by rw[jL];exact g.cr) g.fing (i:=i) (by rw[jL];exact⟨⟨x,hx,hp.1⟩,As⟩);rwa[jL] at h
 unfold fB;rw[adt (by rw[KH];exact he) (ZT aa he As)]
theorem ag6(g:dF F ls):∃i,HX ls.reverse i/\ni ls=eU ls.reverse i:=by
 have he:=g.even;have hn:0<ls.length:=iX.2 g.ne;have hdw:∀k,k<ls.length->∀x,ls[k]?=some x->x.aE=true->(iO ls).getD k false=dn ls k:=fun k hk x hx hp=>by unfold iO;rw[dq,fZ,r4 hk];show gV ls k=_;unfold gV;rw[hx];show(x.aE&&_)=_;rw[hp,Db]
 unfold ni;split
 .rename_i i hf;have hi:=gj.1 (He hf);have hb:=Kc hf;unfold Hz at hb;rw[cX] at hb;obtain⟨h1,h2⟩:=hb;obtain⟨x,hx⟩:=aL (ls:=ls) (k:=ls.length-1-i) aa;have CA:ls.reverse[i]?=some x:=by rw[Nu aa];exact hx
  rw[Pn CA] at h1;refine⟨i,⟨⟨x,CA,h1⟩,?_⟩,rfl⟩;rw[hdw _ aa x hx h1] at h2;unfold dn at h2;unfold par;rw[List.take_reverse,vO];have e1:aw Let.aE ls=aw Let.aE (ls.take (ls.length-i))+aw Let.aE (ls.drop (ls.length-i)):=by rw[<- yA,mX]
  have e2:=VK ls hx;rw[show ls.length-1-i+1=ls.length-i by omega,h1,if_pos rfl] at e2;have h3:¬aw Let.aE (ls.take (ls.length-1-i))%2=0:=by intro h;rw[h] at h2;cases h2
  rw[decide_eq_false h3] at e2;have h4:aw Let.aE (ls.take (ls.length-i))%2=0:=of_decide_eq_true e2;omega
 rename_i hf;exfalso;have dy:∀k,k<ls.length->∀x,ls[k]?=some x->x.aE=true->dn ls k=true:=fun k hk x hx hp=>by
  have h:=Ha.1 hf (ls.length-1-k) (gj.2 aa);have CA:ls.reverse[ls.length-1-k]?=some x:=by rw[Nu aa,show ls.length-1-(ls.length-1-k)=k by omega];exact hx
  unfold Hz at h;rw[Pn CA,show ls.length-1-(ls.length-1-k)=k by omega,hdw k hk x hx hp,show(x.kind==1)=true from hp] at h
  simpa using h
 have h1:∀k,k<ls.length->aw Let.aE (ls.take (k+1))=1:=by
  intro k
  induction k with
  |zero=>intro _;obtain⟨⟨x,hx,hp⟩,_⟩:=g.abF;rw[ru hx hp];rfl
  |succ k ih=>
   intro hk;obtain⟨x,hx⟩:=aL hk;cases hp:x.aE with
   |false=>rw[jC hx hp];exact ih aa
   |true=>have h2:=dy _ hk x hx hp;unfold dn at h2;rw[ih aa] at h2;cases h2
 have h2:=h1 (ls.length-1) aa;rw[show ls.length-1+1=ls.length by omega,kS] at h2;omega
theorem Xv(g:dF F ls):cU (F:Int) (ni ls)=0/\fB (ni ls)=fB ls:=by
 have he:=g.even;have hn:0<ls.length:=iX.2 g.ne;refine⟨?_,?_⟩
 .obtain⟨i,hi,e⟩:=ag6 g;have h:=aeA g.cz.rv (fun x hx=>by
   rw[fZ,Nu (by rw[Bo];exact hn),Bo,Bn aa] at hx;cases hx;show(!dn ls (ls.length-1-0+1))=false;rw[show ls.length-1-0+1=ls.length by omega,Sf g];rfl) (by rw[cM,qW,Bo];exact g.len) (by rw[CI,vO,jL];exact g.cr) g.fing (i:=i) (by rw[CI,jL];exact hi)
  rw[CI,jL] at h;rw[e];exact h
 unfold fB;have hb:=ajg he;rw[adt (hb.2.1.trans he) hb]
end
theorem apO(p:List bd)(hp:p.length<=100000000):aI S 30 [.one (.p (kK p)),.one (.p (kK p))] (rb true):=by
 refine aZ c30 ?_;have hlen:((p.length:Int)!=(p.length:Int))=false:=af;simp only[go_sem,i30,hlen];refine cV (fun k ak aj=>ak 0=.one (.p (kK p))/\ak 1=.one (.p (kK p))/\ak 5=vi k) 0 p.length (bG _) ⟨rfl,rfl,rfl⟩ ?_;rintro k ak aj hk ⟨h0,h1,h5⟩
 by_cases ay:k<p.length
 .have aJ:((k:Int)<(p.length:Int)):=aa;obtain⟨m,hm⟩:=aL ay;have Eh:=I8 hm;have w1:=cn (n:=k) aa;simp only[go_sem,i30_l1,h0,h1,h5,ay,aJ,Eh,bd.ps,w1,tq,ui];first|done|exact aG|exact⟨aG,rfl⟩
 have:k=p.length:=aa;subst this;simp only[go_sem,i30_l1,i30_r2,h0,h5,eE];first|done|rfl
theorem ajI(F:Nat)(A:List Let)(p:List bd)(w:Bool)(hA:A.length<=1000000)(hp:p.length<=100000000):aI S 9 [.agg [.p (.int .i64 F),.p (cF A),.p (kK p),.p (.bool w)],.agg [.p (.int .i64 F),.p (cF A),.p (kK p),.p (.bool w)]] (rb true):=by have pe:=aiX (F:Int) A hA;have pm:=apO p hp;refine aZ c9 ?_;simp only[go_sem,i9,s29,s30,cY pe,cY pm];first|done|rfl
theorem aq7(h:cU (F:Int) ls=0)(aH:ls≠[])(i:Int):(∃k:Nat,i=k/\k<ls.length/\gV ls k=true/\aI S 6 [dX F ls,vi i] (.tup [.agg [.p (.int .i64 F),aT jI 6 (dw (eU ls k))],.one (.p (.int .i64 0))]))\/aI S 6 [dX F ls,vi i] (.tup [.agg [.p (.int .i64 0),.p .nils],.one (.p (.int .i64 2))]):=by
 have rJ:=Dv h;have pr:=EM (F:Int) ls aa;rw[CR h,if_neg aH,tY] at pr;have pV:((0:Int)!=0)=false:=ae;by_cases h1:i<0
 .right;refine aZ c6 ?_;simp only[go_sem,i6,s19,cJ pr fL,pV,h1];first|done|rfl
 obtain⟨k,rfl⟩:=sZ (show 0<=i by omega);by_cases h2:k<ls.length
 .have gH:¬((ls.length:Int)<=(k:Int)):=aa;have hd:(bP (iO ls))[k]?=some [.bool (gV ls k)]:=by
   unfold iO;rw[fZ,fZ,r4 h2];rfl
  have hdl:(bP (iO ls)).length=ls.length:=by simp[iO]
  have lY:S.lone 384384512=false:=ah;cases hb:gV ls k with
  |false=>right;rw[hb] at hd;refine aZ c6 ?_;simp only[go_sem,i6,s19,cJ pr fL,pV,h1,gH,hd];first|done|rfl
  |true=>
   left;rw[hb] at hd;refine⟨k,rfl,h2,hb,?_⟩;have p2:=V5 ls k aa aa;refine aZ c6 ?_;simp only[go_sem,i6,s19,cJ pr fL,pV,h1,gH,hd,s20];refine Sb p2 lY (.inl rfl) fun c ao w gc oX hw=>?_;have q0:=oX 384000000 ae;have q1:=oX 384000064 ae;simp only[go_sem] at q0 q1;simp only[go_sem,q1];refine⟨?_,?_⟩
   .rcases hw with rfl|rfl<;>kernel_rfl
   exact Ll (gc.of_eq (by simp only[aN,Nat.reduceEqDiff,if_false]))
 have gH:((ls.length:Int)<=(k:Int)):=aa;right;refine aZ c6 ?_;simp only[go_sem,i6,s19,cJ pr fL,pV,h1,gH];first|done|rfl
theorem aq4(h:cU (F:Int) ls=0)(hle:ls=[])(i:Int):aI S 6 [dX F ls,vi i] (.tup [.agg [.p (.int .i64 0),.p .nils],.one (.p (.int .i64 2))]):=by
 have pr:=EM (F:Int) ls (by rw[hle];exact bG _);rw[CR h,if_pos hle] at pr;have pV:((0:Int)!=0)=false:=ae;refine aZ c6 ?_;by_cases h1:i<0
 .simp only[go_sem,i6,s19,cJ pr fL,pV,h1];first|done|rfl
 have gH:(((0:Nat):Int)<=i):=aa;simp only[go_sem,i6,s19,cJ pr fL,pV,h1,gH];first|done|rfl
theorem Xx(h:cU (F:Int) ls=0)(aH:ls≠[]):aI S 7 [dX F ls] (.tup [.agg [.p (.int .i64 F),aT jI 6 (dw (ni ls))],.one (.p (.int .i64 0))]):=by
 have rJ:=Dv h;have pr:=EM (F:Int) ls aa;rw[CR h,if_neg aH,tY] at pr;have pV:((0:Int)!=0)=false:=ae;have pb:=Xw (F:=F) aH (show ls.length<=1000000 by omega);have eF:(lD F ls).norm=lD F ls:=by simp only[MS]
 generalize lD F ls=dg at*;have lY:S.lone 1344256256=false:=ah;have vn:S.lone 448064064=false:=ah;have pc:aI S 21 [dX F ls,.one (.p (.fn 22 [] []))] (.tup [.agg [.p (.int .i64 F),aT jI 6 (dw (ni ls))],.one (.p (.int .i64 0))]):=by
  refine aZ c21 ?_;simp only[go_sem,i21,s19,cJ pr fL,pV,eF,s22];refine Sb pb lY (.inl rfl) fun c ao w gc oX hw=>?_;have q0:=oX 1344000000 ae;have q1:=oX 1344000064 ae;simp only[go_sem] at q0 q1;simp only[go_sem,q1];refine⟨?_,?_⟩
  .rcases hw with rfl|rfl<;>kernel_rfl
  exact Ll (gc.of_eq (by simp only[aN,Nat.reduceEqDiff,if_false]))
 refine aZ c7 ?_;simp only[go_sem,i7,s21];refine Ii pc vn fun c ao gc oX=>?_;have q0:=oX 448000000 ae;have q1:=oX 448000064 ae;simp only[go_sem] at q0 q1;simp only[go_sem,q1];exact Ll (gc.of_eq (by simp only[aN,Nat.reduceEqDiff,if_false]))
theorem ag7(cq:nQ)(h:cU (F:Int) ls=0)(hle:ls=[]):aI S 7 [dX F ls] (.tup [.agg [.p (.int .i64 F),.p (.sl [])],.one (.p (.int .i64 0))]):=by
 have pr:=EM (F:Int) ls (by rw[hle];exact bG _);rw[CR h,if_pos hle] at pr;have pV:((0:Int)!=0)=false:=ae;have pb:=Xu cq F;have eF:(uW F).norm=uW F:=by simp only[MS]
 generalize uW F=dg at*;have pc:aI S 21 [dX F ls,.one (.p (.fn 22 [] []))] (.tup [.agg [.p (.int .i64 F),.p (.sl [])],.one (.p (.int .i64 0))]):=by refine aZ c21 ?_;simp only[go_sem,i21,s19,cJ pr fL,pV,eF,s22,DC pb Vl];first|done|rfl|exact⟨ah,rfl⟩
 refine aZ c7 ?_;simp only[go_sem,i7,s21,cJ pc ED];first|done|rfl
theorem ahP{f:Int}(h:cU f ls=0):∃F:Nat,f=(F:Int):=by
 by_cases aH:ls=[]
 .subst aH;unfold cU at h;rw[if_neg ae] at h;by_cases hf:f<0\/40<f
  .rw[if_pos hf] at h;cases h
  exact sZ (show 0<=f by omega)
 obtain⟨F,e,_⟩:=xg h aH;exact⟨F,e⟩
theorem aay{Q:dA}{ak:Env}{aj:aA}{os:List aO}{d:Option Nat}{f:Nat}{vs:List V}{s t1 z1:Nat}{rd:List Nat}{es:List (List PV)}{x y w u:PV}(hr:nK aj rd)(hs:s+2∉rd)(hp:aI S f vs (.tup [.agg [.p x,.p y,aT t1 z1 es,.p w],.one (.p u)]))(eS:S.lone s=false)
  (hK:∀(c:C) ao,grown (s+2) t1 z1 es (.one c) ao->(∀i,i∉rd->i≠s+2->ao i=aj i)->RN S .all os Q (put ak d (.tup [.agg [.p x,.p y,c,.p w],.one (.p u)])) ao):gP S .all (.pc f vs rd s) d os Q ak aj:=by
 have e0:∀(b b':aA) (k:Nat) (r:RC),b' k=b k->cH b k r=cH b' k r:=by
  intro b b' k r h;cases r with
  |p v=>rfl
  |own ty sz es=>simp only[cH,h]
 have Ac:∀(a b:List eN) (c:aA),app (a++b) c=app b (app a c):=by
  intro a
  induction a with
  |nil=>intro b c;rfl
  |cons x a ih=>intro b c;exact ih b _
 have lW:jl aj s (.tup [.agg [.p x,.p y,aT t1 z1 es,.p w],.one (.p u)])=(.tup [.agg [.p x,.p y,(cH aj (s+2) (aT t1 z1 es)).1,.p w],.one (.p u)],(cH aj (s+2) (aT t1 z1 es)).2):=by simp[jl,gG,mf,ik,iT,qt,qT,l7,cH]
 have key:∃fu:List eN,land aj rd s (.tup [.agg [.p x,.p y,aT t1 z1 es,.p w],.one (.p u)])=some (.tup [.agg [.p x,.p y,(cH aj (s+2) (aT t1 z1 es)).1,.p w],.one (.p u)],fu++(cH aj (s+2) (aT t1 z1 es)).2)/\ ∀i,i∉rd->app fu aj i=aj i:=by
  unfold land;rw[lW];by_cases h:rd=[]\/(RV.tup [.agg [.p x,.p y,aT t1 z1 es,.p w],.one (.p u)]).alone=true
  .rw[if_pos h];exact⟨[],rfl,fun _ _=>rfl⟩
  rw[if_neg h];obtain⟨fu,h1,h2⟩:=Ow rd rd hr;have:rA aj rd=some fu:=h1;rw[this];exact⟨fu,rfl,fun i hi=>Ds _ _ _ (by rw[h2];exact hi)⟩
 obtain⟨fu,hl,hf⟩:=key;have e2:cH aj (s+2) (aT t1 z1 es)=cH (app fu aj) (s+2) (aT t1 z1 es):=e0 _ _ _ _ (hf _ hs);obtain⟨k1,k2,_⟩:=rM (aj:=app fu aj) (s:=s+2) (ty:=t1) (z:=z1) (es:=es);rw[<- e2] at k1 k2;refine(cJ hp (by rw[eS,uH];exact hl)).2 (hK _ _ ?_ ?_)
 .rw[Ac];exact k1
 intro i h1 h2;rw[Ac,k2 i h2,hf i h1]
def tl:aK->aK
 | .seq _ b=>b
 |c=>c
def Wa:Nat->aK->aK->aK
 |0,_,t=>t
 |n+1,.seq a b,t=>.seq a (Wa n b t)
 |_,c,_=>c
theorem ae2{site:Nat}{p:List bd}{c:C}{aj:aA}(h:grown site gC 7 (mP p) (.one c) aj):∃r,∀B:aA,B site=aj site->Go.Abs.snap B fH c=some (kK p,r):=by obtain⟨r,h1,_⟩:=h.ET;exact⟨r,h1⟩
theorem acP:S.lone 192256128=false:=ah
theorem acQ:S.lone 192512064=false:=ah
theorem amQ:S.lone 192768128=false:=ah
theorem amS:S.lone 192832128=false:=ah
abbrev Qy:aK:=tl (tl (tl (tl (tl i3.body))))
theorem aq9(hk:aI S 5 [] (rb true))(cq:nQ){F n sd:Nat}{ls D:List Let}{cd:C}{ak:Env}{aj:aA}(rJ:ls.length<=30)(h1:1<=n)(h2:n<=20)(ck1:cU (F:Int) ls=0)(ck2:cU (F:Int) D=0)(he:zk F n D=zk F n ls)
  (e1:ak 1=vi n) (e4:ak 4=.one (.aY 192000000 1 0)) (e9:ak 9=.one (.aY 192192064 1 0)) (b0:aj 192000000=(1,some (.var [.p (.int .i64 F),.p (cF ls)]))) (b9:aj 192192064=(1,some (.var [.p (.int .i64 F),cd]))) (hc:Du sd D cd aj) (Mp:sd=192256129\/sd=192512065):
  W S .all Qy (mJ .all i3.results fun v aj=>iU aj v=some (rb true)) ak aj:=by
 have pa:=ac8 cq h1 (show n<=20000 by omega) ck1;have pb:=ac8 cq h1 (show n<=20000 by omega) ck2;rw[he] at pb;have hX:(zk F n ls).1.length<=400/\(zk F n ls).2.1.length<=100000:=by obtain⟨K,k1,k2⟩:=am9 cq h1 (show n<=20000 by omega) ck1;have h3:=k1.len;have h4:=GA ls;have hb:(ls.length+2)*n<=32*20:=Nat.mul_le_mul aa h2;exact⟨by rw[k2];exact mD (GA K) (Dv k1.chk),aa⟩
 generalize zk F n ls=X at*;have pf:=ajI F X.1 X.2.1 X.2.2 aa aa;have pV:((0:Int)!=0)=false:=ae;unfold Qy;simp only[i3,tl];simp only[go_sem,e1,e4,b0,s8];refine aay nK.nil (fun h=>by cases h) pa amQ fun c bK g1 akr=>?_;have cD:∀i,i≠192768128+2->bK i=_:=fun i h=>akr i (fun h=>by cases h) h;have g1:grown 192768130 gC 7 (mP X.2.1) (.one c) bK:=g1;obtain⟨r1,sn1⟩:=ae2 g1;have q0:=cD 192000000 ae;have q9:=cD 192192064 ae;have qd:=cD sd (by rcases Mp with rfl|rfl<;>decide);have fG:Du sd D cd bK:=by
  rcases hc with h|h
  .exact .inl h
  exact .inr (h.of_eq qd)
 rw[b0] at q0;rw[b9] at q9;obtain⟨rd,lK,qf,har,_⟩:=fG.snap;have hrm:∀i∈rd,i=sd:=fun i hi=>by
  rcases qf with h|h
  .rw[h] at hi;cases hi
  rw[h] at hi;exact pO.1 hi
 have alw:∀B:aA,B sd=bK sd->Go.Abs.snap B fH cd=some (cF D,rd):=fun B hB=>lK B fun i hi=>by rw[hrm i hi];exact hB
 have sJ:¬sd=192768384/\ ¬sd=192832384:=by rcases Mp with rfl|rfl<;>decide
 simp only[go_sem,e1,e9,q9,alw,sJ,s8];refine aay (fun i hi=>?_) (fun hi=>?_) pb amS fun c2 bh g2 bj=>?_
 .have:=hrm i hi;subst this;obtain⟨a1,a2,a3,a4,h⟩:=har i hi;exact⟨a1,a2,a3,a4,by simp only[aN,sJ,if_false];exact h⟩
 .have:=hrm _ hi;rcases Mp with h|h<;>rw[h] at this<;>revert this<;>decide
 have g2:grown 192832130 gC 7 (mP X.2.1) (.one c2) bh:=g2;obtain⟨r2,sn2⟩:=ae2 g2;have F9:∀i,i≠sd->i∉rd:=fun i h hi=>h (hrm i hi);have t3:=bj 192768384 (F9 _ (by rcases Mp with rfl|rfl<;>decide)) ae;have t1:=bj 192768130 (F9 _ (by rcases Mp with rfl|rfl<;>decide)) ae;simp only[go_sem] at t3 t1;simp only[go_sem,t3,t1,sn1,sn2,s9,cY pf,s5,cY hk];first|done|rfl
theorem aq8(hk:aI S 5 [] (rb true))(cq:nQ){n:Nat}(rJ:ls.length<=30)(h1:1<=n)(h2:n<=20)(ck:cU (F:Int) ls=0)(i:Int)(bk:Bool):aI S 3 [dX F ls,vi n,vi i,vb bk] (rb true):=by
 have ps:=ae0 (f:=F) (ls:=ls) (n:=30) ae;have Aw:(decide ((ls.length:Int)<=30)&&(cU (F:Int) ls==0))=true:=by rw[ck,decide_eq_true (show(ls.length:Int)<=30 by omega)];rfl
 rw[Aw] at ps;have z3:¬((n:Int)<1):=aa;have z4:¬((20:Int)<(n:Int)):=aa;have pV:((0:Int)!=0)=false:=ae;have KQ:((2:Int)==0)=false:=ae;have mk:∀D:List Let,D.length=ls.length->fB D=fB ls->zk F n D=zk F n ls:=fun D hl hn=>by unfold zk;rw[hl,hn]
 have tail:=fun(D:List Let) (cd:C) (sd:Nat) (ak:Env) (aj:aA) (ck2:cU (F:Int) D=0) (hl:D.length=ls.length) (hn:fB D=fB ls)=>aq9 hk cq (cd:=cd) (sd:=sd) (ak:=ak) (aj:=aj) rJ h1 h2 ck ck2 (mk D hl hn);have aku:i3.body=Wa 5 i3.body Qy:=rfl;refine aZ c3 ?_;rw[aku];generalize Qy=T at tail;simp only[i3,Wa];by_cases aH:ls=[]
 .have pst:=aq4 ck aH i;have pbk:=ag7 cq ck aH;cases bk with
  |false=>
   simp only[go_sem,s4,cY ps,z3,z4,s6,cJ pst ED,KQ];refine tail ls (.p (cF ls)) 192256129 _ _ ck rfl rfl rfl rfl rfl ?_ ?_ (.inl rfl) (.inl rfl)
   .simp only[go_sem]
   simp only[go_sem]
  |true=>
   simp only[go_sem,s4,cY ps,z3,z4,s6,cJ pst ED,KQ,s7,cJ pbk ED,pV];refine tail ls (.p (.sl [])) 192256129 _ _ ck rfl rfl rfl rfl rfl ?_ ?_ (.inl (by rw[aH];rfl)) (.inl rfl)
   .simp only[go_sem]
   simp only[go_sem]
 obtain⟨G,e,g⟩:=xg ck aH;have hFG:G=F:=aa;subst hFG;obtain⟨vb1,MN⟩:=Xv g;rcases aq7 ck aH i with ⟨k,rfl,dU,hd,pst⟩|pst
 .obtain⟨JT,ns1⟩:=aq6 g dU hd;have hrl:=EN ls k;have O2:eU ls k≠[]:=fun h=>aH (E0.1 (by rw[<- hrl,h];rfl));obtain⟨G2,e2,g2⟩:=xg JT O2;have aki:G2=G:=aa;subst aki;obtain⟨vb2,MO⟩:=Xv g2;have pbk:=Xx JT O2;have pY:=Hx (eU ls k);generalize eU ls k=R at*;cases bk with
  |false=>
   simp only[go_sem,s4,cY ps,z3,z4,s6];refine Ii pst acP fun cs bK gs cD=>?_;have gs:grown 192256129 jI 6 (dw R) (.one cs) bK:=gs;have q0:=cD 192000000 ae;have q9:=cD 192192064 ae;simp only[go_sem] at q0 q9;simp only[go_sem,q9];refine tail R cs 192256129 _ _ JT hrl ns1 rfl rfl rfl ?_ ?_ (.inr (gs.of_eq (by simp only[aN,Nat.reduceEqDiff,if_false]))) (.inl rfl)
   .simp only[go_sem,q0]
   simp only[go_sem]
  |true=>
   simp only[go_sem,s4,cY ps,z3,z4,s6];refine Ii pst acP fun cs bK gs cD=>?_;have gs:grown 192256129 jI 6 (dw R) (.one cs) bK:=gs;obtain⟨r1,sn1,_⟩:=gs.ET;have q0:=cD 192000000 ae;have q9:=cD 192192064 ae;simp only[go_sem] at q0 q9;simp only[go_sem,q9,sn1,s7];refine Uq pbk acQ rfl rfl (GM _) fun cb bh gb bj=>?_;have gb:grown 192512065 jI 6 (dw (ni R)) (.one cb) bh:=gb;have t0:=bj 192000000 ae;have t9:=bj 192192064 ae;simp only[go_sem,q0] at t0 t9;simp only[go_sem,t9,pV];refine tail (ni R) cb 192512065 _ _ vb2 (pY.trans hrl) (MO.trans ns1) rfl rfl rfl ?_ ?_ (.inr (gb.of_eq (by simp only[aN,Nat.reduceEqDiff,if_false]))) (.inr rfl)
   .simp only[go_sem,t0]
   simp only[go_sem]
 have pbk:=Xx ck aH;have pY:=Hx ls;cases bk with
 |false=>
  simp only[go_sem,s4,cY ps,z3,z4,s6,cJ pst ED,KQ];refine tail ls (.p (cF ls)) 192256129 _ _ ck rfl rfl rfl rfl rfl ?_ ?_ (.inl rfl) (.inl rfl)
  .simp only[go_sem]
  simp only[go_sem]
 |true=>
  simp only[go_sem,s4,cY ps,z3,z4,s6,cJ pst ED,KQ,s7];refine Ii pbk acQ fun cb bh gb bj=>?_;have gb:grown 192512065 jI 6 (dw (ni ls)) (.one cb) bh:=gb;have t0:=bj 192000000 ae;have t9:=bj 192192064 ae;simp only[go_sem] at t0 t9;simp only[go_sem,t9,pV];refine tail (ni ls) cb 192512065 _ _ vb1 pY MN rfl rfl rfl ?_ ?_ (.inr (gb.of_eq (by simp only[aN,Nat.reduceEqDiff,if_false]))) (.inr rfl)
  .simp only[go_sem,t0]
  simp only[go_sem]
theorem amm(cq:nQ)(hk:aI S 5 [] (rb true))(f:Int)(ls:List Let)(n i:Int)(bk:Bool):aI S 3 [dX f ls,vi n,vi i,vb bk] (rb true):=by
 have ps:=ae0 (f:=f) (ls:=ls) (n:=30) ae;by_cases h:ls.length<=30/\cU f ls=0
 .have hs:(decide ((ls.length:Int)<=30)&&(cU f ls==0))=true:=by
   rw[h.2,decide_eq_true (show(ls.length:Int)<=30 by omega)];rfl
  by_cases hn:1<=n/\n<=20
  .obtain⟨F,rfl⟩:=ahP h.2;obtain⟨m,rfl⟩:=sZ (show 0<=n by omega);exact aq8 hk cq h.1 aa aa h.2 i bk
  rw[hs] at ps;refine aZ c3 ?_;by_cases y3:n<1
  .simp only[go_sem,i3,s4,cY ps,y3,s5,cY hk];first|done|rfl
  have y4:(20:Int)<n:=aa;simp only[go_sem,i3,s4,cY ps,y3,y4,s5,cY hk];first|done|rfl
 have hs:(decide ((ls.length:Int)<=30)&&(cU f ls==0))=false:=by
  rw[Bool.and_eq_false_iff];by_cases hl:ls.length<=30
  .right;exact beq_eq_false_iff_ne.2 fun hc=>h ⟨hl,hc⟩
  left;exact decide_eq_false aa
 rw[hs] at ps;refine aZ c3 ?_;simp only[go_sem,i3,s4,cY ps,s5,cY hk];first|done|rfl
end
end Go.Abs
namespace Go.Proofs.YtfohniicngjeoaaGreatDoor.fnEaseStarts
open Go.Abs Go.ChangeShapes Go.WideShapes Go.ChangeAt Go.RowKit
theorem aaQ {P : Program} {N n : Nat} {t : TypeId} {fs : Array Field} {p : List PV} (hu : P.underlying t = some (.struct fs)) (h : j4 P N (n + 1) t p) :
    ∃parts : List (List PV), p = parts.flatten ∧ parts.length = fs.toList.length ∧ ∀(i : Nat) (f : Field) (x : List PV), fs.toList[i]?= some f → parts[i]?= some x → j4 P N n f.type x := by
  simp only [j4, hu] at h;exact h
theorem amL {es : List (List PV)} (h :∀x ∈ es, ∃l : Let, x = l.ps) :∃ls : List Let, es = ls.map Let.ps := by
  induction es with
  | nil => exact ⟨[], rfl⟩
  | cons e es ih =>obtain ⟨l, rfl⟩ := h e (by simp);obtain ⟨ls, rfl⟩ := ih fun x hx => h x (by simp [hx]);exact ⟨l :: ls, rfl⟩
theorem amK {N n : Nat} {p : List PV} (h : j4 S.P N (n + 1 + 1) 41 p) :∃l : Let, p = l.ps := by
  obtain ⟨parts, rfl, hl, hp⟩ := aaQ Tryz.underlying41 h;rcases parts with _ | ⟨p0, _ | ⟨p1, _ | ⟨p2, _ | ⟨p3, _ | ⟨p4, _ | ⟨p5, _ | ⟨p6, r⟩⟩⟩⟩⟩⟩⟩ <;> first
    | (simp at hl; done)
    | skip
  obtain ⟨k, rfl, _⟩ := DV Tryz.underlying39 (hp 0 _ _ rfl rfl);obtain ⟨g, rfl, _⟩ := DV Tryz.underlying3 (hp 1 _ _ rfl rfl);obtain ⟨r, rfl, _⟩ := DV Tryz.underlying3 (hp 2 _ _ rfl rfl);obtain ⟨i, rfl, _⟩ := DV Tryz.underlying3 (hp 3 _ _ rfl rfl);obtain ⟨s, rfl, _⟩ := DV Tryz.underlying3 (hp 4 _ _ rfl rfl);obtain ⟨o, rfl⟩ := aaP Tryz.underlying4 (hp 5 _ _ rfl rfl);exact ⟨⟨k, g, r, i, s, o⟩, rfl⟩
theorem ahZ {N n : Nat} {p : List PV} (h : j4 S.P N (n + 1 + 1 + 1 + 1) 24 p) :∃(k : Int) (ls : List Let), p = [.int .i64 k,.sl (ls.map Let.ps)] := by
  obtain ⟨parts, rfl, hl, hp⟩ := aaQ Tryz.underlying24 h;rcases parts with _ | ⟨p0, _ | ⟨p1, _ | ⟨p2, r⟩⟩⟩ <;> first
    | (simp at hl; done)
    | skip
  obtain ⟨k, rfl, _⟩ := DV Tryz.underlying3 (hp 0 _ _ rfl rfl);obtain ⟨es, rfl, _, he⟩ := akq Tryz.underlying22 (hp 1 _ _ rfl rfl);obtain ⟨ls, rfl⟩ := amL fun x hx => amK (he x hx);exact ⟨k, ls, rfl⟩
theorem law_any (pvss : List (List PV)) (h : NA S.P maxLen 4 Tryz.f3.params.toList pvss) : aI S 3 (BB S.P Tryz.f3.params.toList pvss) (.one (.p (.bool true))) := by
  have hp : Tryz.f3.params.toList = [24, 3, 3, 4] := by rw [Tryz.params3]
  rw [hp] at h ⊢;rcases pvss with _ | ⟨a0, _ | ⟨a1, _ | ⟨a2, _ | ⟨a3, _ | ⟨a4, z4⟩⟩⟩⟩⟩
  · exact h.elim
  · exact h.2.elim
  · exact h.2.2.elim
  · exact h.2.2.2.elim
  · obtain ⟨f0, ls0, rfl⟩ := ahZ (n := 0) h.1
    obtain ⟨x1, rfl, _⟩ := DV (n := 3) Tryz.underlying3 h.2.1;obtain ⟨x2, rfl, _⟩ := DV (n := 3) Tryz.underlying3 h.2.2.1;obtain ⟨x3, rfl⟩ := aaP (n := 3) Tryz.underlying4 h.2.2.2.1;have e3 :∀(f : Int) (a : List Let), zM S.P 24 [.int .i64 f,.sl (a.map Let.ps)] = dX f a := fun f a => agB (P := S.P) Tryz.underlying24;have e1 :∀x : Int, zM S.P 3 [.int .i64 x] = vi x := fun x => Xg (P := S.P) Tryz.underlying3 (fun fs h => by cases h);have e2 :∀x : Bool, zM S.P 4 [.bool x] = vb x := fun x => Xg (P := S.P) Tryz.underlying4 (fun fs h => by cases h);simp only [BB, e3, e1, e2];exact amm ahS al9 f0 ls0 x1 x2 x3
  · exact h.2.2.2.2.elim
theorem gTab : Tryz.prog.globalNamed Qx = some 0 := by kernel_rfl
theorem aj2 : (Tryz.prog.globals[0]?).map (·.type) = some 214 := by kernel_rfl
theorem ahD : Tryz.prog.cellsOf 214 = 20 := by kernel_rfl
theorem ahE : Tryz.prog.cellsOf 198 = 1 := by kernel_rfl
/-- what the row's list gives: the table of the powers of ten -/
theorem table {W : World} (h : laidMetH Tryz.prog Rows.easeStartsRow.laid W) : G W := by
  have h1 : laidMet Tryz.prog Rows.easeStartsRow.laid W := h;have h2 := h1.tail.tail;have e : (Rows.laid_internal_strconv_uint64pow10 : DataW Unit) = Lib.tabData .u64 Lib.pow10Tab := by kernel_rfl
  rw [e] at h2;exact Lib.tabIs_of_head (rest := []) gTab aj2 Tryz.underlying214 Tryz.underlying198 ahE ahD h2
end Go.Proofs.YtfohniicngjeoaaGreatDoor.fnEaseStarts
namespace Go.Proofs.YtfohniicngjeoaaGreatDoor.fnEaseStarts
open Go.Abs Go.ChangeShapes Go.WideShapes Go.ChangeAt Go.RowKit
theorem own : ownKnob Tryz.prog.godebug = none := by kernel_rfl
theorem ah7 (H : Type) (enc : TypeId×Value → H) (W : World) (base : Nat) (args : Array Value) (ds gs : List (DataW H)) (before : List MemPlace)
    (hval :∀(j : Nat) t v, Tryz.f3.params[j]?= some t → args[j]?= some v → Value.okWide Tryz.prog W .any base t v)
    (hW : DataW.Whole enc Tryz.prog Tryz.f3.params.toList Rows.easeStartsSpec.vars false W args.toList ds gs before) (hL : laidMetH Tryz.prog Rows.easeStartsRow.laid W) :
    Calls Tryz.prog 3 args W fun e W' =>∃v, e =.returned v ∧ Rows.easeStartsSpec.post enc Tryz.prog Tryz.f3 false true false false W args v W' := by
  have hk :∀t ∈ Tryz.f3.params.toList, jJ S.P 4 t = true := by
    rw [Tryz.params3];intro t ht;have e : t = 24 ∨ t = 3 ∨ t = 4 := by simpa using ht
    have k0 : jJ S.P 4 24 = true := by kernel_rfl
    have k1 : jJ S.P 4 3 = true := by kernel_rfl
    have k2 : jJ S.P 4 4 = true := by kernel_rfl
    rcases e with e | e | e
    · exact e ▸ k0
    · exact e ▸ k1
    · exact e ▸ k2
  have hfit :∀d ∈ ds, Fits maxLen d := by obtain ⟨p, q, hA, _⟩ := hW;exact (afw hk hA).1
  exact aml S_ok (fun w h => akc h) (fn := Tryz.f3) (s := Rows.easeStartsSpec) rfl
    (fun H ds hd => by
      rw [Tryz.params3] at hd
      match ds, hd with
      | [d0, d1, d2, d3], _ => rfl) (tb := 4) (by kernel_rfl) Tryz.underlying4 hk law_any hval hW (table hL) hfit

noncomputable def ahC (d : DataW Unit) : Array Value :=
  match d with
  | .agg l => (l.map fun
    | .lit (.int k z) => Value.int k z
    | _ => undef).toArray
  | _ => #[]
noncomputable def Vn (d : DataW Unit) : Obj → Obj
  | .cells _ t frozen =>.cells (ahC d) t frozen
  | o => o
noncomputable def Vj (os : Os) : World :={ World.holding Tryz.prog os ⟨#[], #[], []⟩ with heap := (((World.holding Tryz.prog os ⟨#[], #[], []⟩).heap.modify 1 (Vn Rows.laid_math_bits_deBruijn32tab)).modify 2 (Vn Rows.laid_math_bits_deBruijn64tab)).modify 0 (Vn Rows.laid_internal_strconv_uint64pow10) }
theorem amg (os : Os) : laidMet Tryz.prog Rows.easeStartsRow.laid ((Vj os).forCall (fun _ _ => 0) ⟨#[], #[Value.agg #[.int .i64 0,.slice none 0 0],.int .i64 0,.int .i64 0,.bool false], []⟩).memory :=laidMet_of_run' 8 (by kernel_rfl) (by kernel_rfl)
theorem reads (os : Os) {H : Type} (enc : TypeId×Value → H) :∃places, DataW.whole enc Tryz.prog ((Vj os).forCall (fun _ _ => 0) ⟨#[], #[Value.agg #[.int .i64 0,.slice none 0 0],.int .i64 0,.int .i64 0,.bool false], []⟩).memory Tryz.f3.params.toList Rows.easeStartsSpec.vars false #[Value.agg #[.int .i64 0,.slice none 0 0],.int .i64 0,.int .i64 0,.bool false].toList 8 = some ([.agg [.lit (.int .i64 0),.nil],.lit (.int .i64 0),.lit (.int .i64 0),.lit (.bool false)], [], places) :=
  ⟨[], by kernel_rfl⟩

theorem lifted (os : Os) (started : os.Started) (H : Type) (enc : TypeId×Value → H) (F : Stop.Interp) :
    ReturnsInHanded {} Tryz.checked os 3 .any ((OpenSpec.ofChange Rows.easeStartsSpec).preRow enc Tryz.prog Tryz.f3 Rows.easeStartsRow.domain false Rows.easeStartsRow.laid) (((OpenSpec.ofChange Rows.easeStartsSpec).at F).post enc Tryz.prog Tryz.f3 false true false false) := by
  obtain ⟨places, hx⟩ := reads os enc;refine returnsInHanded_of_row (C := Tryz.checked) (s := (OpenSpec.ofChange Rows.easeStartsSpec)) own started (by kernel_rfl) Tryz.func3
    (witness_row_at (enc := enc) (C := Tryz.checked) false (Vj os) #[Value.agg #[.int .i64 0,.slice none 0 0],.int .i64 0,.int .i64 0,.bool false] rfl (by kernel_rfl) (by kernel_rfl) (by kernel_rfl)
      (OpenSpec.preRow_of_cond 8 hx (by kernel_rfl) (fun k hk => by cases hk) (by kernel_rfl) (amg os))) ?_
  intro W base args ds gs before hval hW _ _ _ hL _ _;exact ah7 H enc W base args ds gs before hval hW hL
end Go.Proofs.YtfohniicngjeoaaGreatDoor.fnEaseStarts
namespace Go.Proofs.YtfohniicngjeoaaGreatDoor.fnEaseStarts
open Go.Abs Go.ChangeShapes Go.WideShapes Go.ChangeAt Go.RowKit
theorem said : Rows.EaseStartsSaid :=
  OpenClaim.holds_of_cond 3 Tryz.f3 rfl rfl rfl rfl rfl rfl rfl ⟨rfl, rfl, rfl, rfl, rfl⟩ rfl rfl rfl rfl rfl (by kernel_rfl) Tryz.func3 closed
    (of_decide_eq_true (by kernel_rfl)) (by unfold Func.isWrapper; first | (rw [if_pos (by decide +kernel)]; kernel_rfl) | (rw [if_neg (by decide +kernel)]; exact ⟨rfl, rfl⟩))
    (fun os started H enc _ F => by rw [OpenClaim.pre_eq_preRow]; exact lifted os started H enc F)

theorem plain (f : FuncId) (fn : Func) (hf : Tryz.pinned.checked.prog.funcNamed Rows.easeStartsRow.func = some f) (hfn : Tryz.pinned.checked.prog.funcs[f]?= some fn) :
    false = Tryz.pinned.checked.prog.looks [] ∧ ∀(j : Nat) t, fn.params[j]?= some t → Tryz.pinned.checked.prog.wantsStandIn t = false := by
  obtain rfl : f = 3 := Option.some.inj ((show Tryz.prog.funcNamed Rows.easeStartsRow.func = some 3 by kernel_rfl).symm.trans hf) |>.symm
  obtain rfl : fn = Tryz.f3 := (Option.some.inj (Tryz.func3.symm.trans hfn)).symm;refine ⟨by kernel_rfl, ?_⟩
  · intro j t ht
    rw [Tryz.params3] at ht;have e : t = 24 ∨ t = 3 ∨ t = 4 := by simpa using Array.mem_of_getElem? ht
    have k0 : Tryz.prog.wantsStandIn 24 = false := by kernel_rfl
    have k1 : Tryz.prog.wantsStandIn 3 = false := by kernel_rfl
    have k2 : Tryz.prog.wantsStandIn 4 = false := by kernel_rfl
    rcases e with e | e | e
    · exact e ▸ k0
    · exact e ▸ k1
    · exact e ▸ k2

theorem ase : Rows.easeStartsRow.wfByText (OpenSpec.ofChange Rows.easeStartsSpec) = true := by kernel_rfl
theorem mainIs : Tryz.pinned.checked.prog.mainIs = some ((true, "11986f608dd85aa7112fca0eab66231c72f36f0e6e173ef3a12c64dcaf6f02ba").1, (true, "11986f608dd85aa7112fca0eab66231c72f36f0e6e173ef3a12c64dcaf6f02ba").2.toList) := by kernel_rfl
theorem card : Rows.EaseStartsCardSaid :=Claim7.holds_tied_plain_at .later [] _ _ _ _ said (fun _ h => by cases h) ase (fun _ h => by cases h) easeStarts_row_tie rfl ⟨rfl, rfl⟩ mainIs rfl plain goes
end Go.Proofs.YtfohniicngjeoaaGreatDoor.fnEaseStarts
