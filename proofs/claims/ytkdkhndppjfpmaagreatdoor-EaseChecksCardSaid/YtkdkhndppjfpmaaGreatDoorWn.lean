/- A part. -/
import Derived.Test.YtkdkhndppjfpmaaGreatDoorWh
set_option linter.all false
open List renaming length->I
set_option maxRecDepth 100000
set_option maxHeartbeats 16000000
namespace Go.Abs
variable{j:q_}{u z x v n A D y B m:Nat}{f:dt}{Q:hs}{h:ct}
section
variable{g:ai}{F:Nat}
def N0{e:b_}(h:I e=1):∃x,e=[x]:=by
 match e,h with
 |[a],_=>exact⟨a,rfl⟩
def ajo{e:b_}(h:I e=2):∃x X,e=[x,X]:=by
 match e,h with
 |[a,b],_=>exact⟨a,b,rfl⟩
def am6{e:b_}(h:I e=7):∃x j n m x4 u X,e=[x,j,n,m,x4,u,X]:=by
 match e,h with
 |[a,b,c,d,f,g,i],_=>exact⟨a,b,c,d,f,g,i,rfl⟩
structure vH (es fs:q_) (k:Nat):Prop where
 len:I fs=I es
 at':∀i,i<I es->fs[i]?=if i<k\/I es-1-i<k then es[I es-1-i]? else es[i]?
def vH.start(j:q_):vH j j 0:=⟨rfl,λi _=>by rw[aC J]⟩
def vH.step{fs:q_}{k:Nat}{a b:b_}(h:vH j fs k)(v:k<I j-1-k)(g:j[k]?=some a)(n:j[I j-1-k]?=some b):
  fs[k]?=some a/\fs[I j-1-k]?=some b/\vH j ((fs.set k b).set (I j-1-k) a) (k+1):=by
 have H:=h.len;refine⟨?_,?_,⟨by rw[jo,jo];exact H,λi u=>?_⟩⟩
 .rw[h.at' k J,aC J,g]
 .rw[h.at' _ J,aC J,n]
 rw[mT,jo];by_cases E:I j-1-k=i
 .rw[aD E,aD J,aD J,show I j-1-i=k by omega,g]
 rw[aC E,mT];by_cases m:k=i
 .subst m;rw[aD rfl,aD J,aD J,n]
 rw[aC m,h.at' i u];by_cases f:i<k\/I j-1-i<k
 .rw[aD f,aD J]
 rw[aC f,aC J]
def vH.done{fs:q_}{k:Nat}(h:vH j fs k)(f:¬k<I j-1-k):fs=j.reverse:=by
 refine yV λi=>?_;rcases I9 i (I j) with H|H
 .rw[h.at' i H,J5 H];by_cases e:i<k\/I j-1-i<k
  .rw[aD e]
  rw[aC e,show I j-1-i=i by omega]
 rw[pF (by rw[h.len];exact H),pF (by rw[jl];exact H)]
def IT(id u z:Nat)(j:q_)(c:dI)(aj:aN)(v:V)(A:aN):Prop:=v=.tup []/\cg id u z j.reverse (.one c) A/\dE (· =id) aj A
def arx{al:cT}{aj:aN}{id:Nat}{c:dI}(o:j=[]\/al.ok id)(hl:I j<=1000000)(M:∀e∈j,I e=1/\ ∀v∈e,v.norm=v)(ab:cg id u 1 j (.one c) aj):
  ∃v A,lK S 171 [.one c] al aj v A/\IT id u 1 j c aj v A:=by
 refine qK aqS (jc rfl) ?_;rcases ab with⟨rfl,H⟩|⟨L,g,H,Q⟩
 .cases H;have z:IntKind.i64.wrap (((0:Nat):Int)-1)= -1:=U;have hz:¬((0:Int)< -1):=U;simp only[go_sem,i171,z,af,ao];refine dy (λk h A=>k=0/\h 2=aH 0/\h 3=aH (-1)/\A=aj) 0 0 (c3 _) ?_ ?_
  .simp only[go_sem]
  rintro k h A _ ⟨rfl,H,f,rfl⟩
  simp only[go_sem,QQ,H,f,hz,af,ao];exact⟨rfl,.inl ⟨rfl,rfl⟩,λ_ _=>rfl⟩
 cases H;have o:=o.resolve_left L;have z:=ud (a:=I j) J;simp only[go_sem,i171,z,af,ao];refine dy (λk h A=>h 0=.one (.hsl id g 1 0 (I j))/\h 2=aH k/\h 3=aH ((I j:Int)-1-(k:Int))/\ ∃fs,A id=(g,some (.arr u 1 fs))/\vH j fs k/\dE (· =id) aj A) 0 (I j) (cG _) ?_ ?_
 .simp only[go_sem];refine⟨rfl,aP,j,Q,vH.start j,dE.refl _ _⟩
 rintro k h A hk ⟨B,H,f,fs,x,y,F⟩
 by_cases E:k<I j-1-k
 .have e1:((I j:Int)-1-(k:Int))=((I j-1-k:Nat):Int):=J;rw[e1]at f;have m:((k:Int)<((I j-1-k:Nat):Int)):=J;have O:=cN (n:=k) J;have w2:IntKind.i64.wrap (((I j-1-k:Nat):Int)-1)=((I j:Int)-1-((k+1:Nat):Int)):=by
   rw[ud J];omega
  obtain⟨a,N⟩:=aT (show k<I j by omega);obtain⟨b,D⟩:=aT (show I j-1-k<I j by omega);obtain⟨Z,fb,zS⟩:=y.step E N D;obtain⟨la,na⟩:=M a (bR N);obtain⟨lb,Y⟩:=M b (bR D);obtain⟨X,rfl⟩:=N0 la;obtain⟨y0,rfl⟩:=N0 lb;have T:=na X aP;have JP:=Y y0 aP;have xK:=y.len;have Et:¬(k=I j-1-k):=J;have R:¬(I j-1-k=k):=J;have l1:k<I fs:=J;have l2:I j-1-k<I fs:=J;have l3:k<I j:=J;have l4:I j-1-k<I j:=J;simp only[go_sem,QQ,B,H,f,x,m,Z,fb,O,w2,o,l1,l2,l3,l4,Et,R,T,JP,mT,jo,af,ao];refine⟨aA,_,rfl,zS,?_⟩;exact(F.dx rfl _).dx rfl _
 have m:¬((k:Int)<(I j:Int)-1-(k:Int)):=J;simp only[go_sem,QQ,B,H,f,m,af,ao];refine⟨rfl,?_,F⟩;rw[y.done E]at x;exact .inr ⟨by simpa using L,g,by rw[jl],x⟩
def apt{al:cT}{aj:aN}{id:Nat}{c:dI}(o:j=[]\/al.ok id)(hl:I j<=1000000)(O:∀e∈j,I e=2/\ ∀v∈e,v.norm=v)(ab:cg id u 2 j (.one c) aj):
  ∃v A,lK S 170 [.one c] al aj v A/\IT id u 2 j c aj v A:=by
 refine qK auo (jc rfl) ?_;rcases ab with⟨rfl,H⟩|⟨M,g,H,Y⟩
 .cases H;have z:IntKind.i64.wrap (((0:Nat):Int)-1)= -1:=U;have hz:¬((0:Int)< -1):=U;simp only[go_sem,acS,z,af,ao];refine dy (λk h A=>k=0/\h 2=aH 0/\h 3=aH (-1)/\A=aj) 0 0 (c3 _) ?_ ?_
  .simp only[go_sem]
  rintro k h A _ ⟨rfl,H,f,rfl⟩
  simp only[go_sem,QV,H,f,hz,af,ao];exact⟨rfl,.inl ⟨rfl,rfl⟩,λ_ _=>rfl⟩
 cases H;have o:=o.resolve_left M;have z:=ud (a:=I j) J;simp only[go_sem,acS,z,af,ao];refine dy (λk h A=>h 0=.one (.hsl id g 2 0 (I j))/\h 2=aH k/\h 3=aH ((I j:Int)-1-(k:Int))/\ ∃fs,A id=(g,some (.arr u 2 fs))/\vH j fs k/\dE (· =id) aj A) 0 (I j) (cG _) ?_ ?_
 .simp only[go_sem];refine⟨rfl,aP,j,Y,vH.start j,dE.refl _ _⟩
 rintro k h A hk ⟨B,H,f,fs,x,y,F⟩
 by_cases E:k<I j-1-k
 .have e1:((I j:Int)-1-(k:Int))=((I j-1-k:Nat):Int):=J;rw[e1]at f;have m:((k:Int)<((I j-1-k:Nat):Int)):=J;have R:=cN (n:=k) J;have w2:IntKind.i64.wrap (((I j-1-k:Nat):Int)-1)=((I j:Int)-1-((k+1:Nat):Int)):=by
   rw[ud J];omega
  obtain⟨a,Q⟩:=aT (show k<I j by omega);obtain⟨b,D⟩:=aT (show I j-1-k<I j by omega);obtain⟨fa,fb,zS⟩:=y.step E Q D;obtain⟨la,L⟩:=O a (bR Q);obtain⟨lb,N⟩:=O b (bR D);obtain⟨X,x1,rfl⟩:=ajo la;obtain⟨y0,y1,rfl⟩:=ajo lb;have JO:=L X aP;have T:=L x1 aP;have JP:=N y0 aP;have PW:=N y1 aP;have xK:=y.len;have Et:¬(k=I j-1-k):=J;have Z:¬(I j-1-k=k):=J;have l1:k<I fs:=J;have l2:I j-1-k<I fs:=J;have l3:k<I j:=J;have l4:I j-1-k<I j:=J;simp only[go_sem,QV,B,H,f,x,m,fa,fb,R,w2,o,l1,l2,l3,l4,Et,Z,JO,T,JP,PW,mT,jo,af,ao];refine⟨aA,_,rfl,zS,?_⟩;exact(F.dx rfl _).dx rfl _
 have m:¬((k:Int)<(I j:Int)-1-(k:Int)):=J;simp only[go_sem,QV,B,H,f,m,af,ao];refine⟨rfl,?_,F⟩;rw[y.done E]at x;exact .inr ⟨by simpa using M,g,by rw[jl],x⟩
def UL{f:Nat}{c:dI}{aj:aN}(h:cg f u z j (.one c) aj):(j=[]/\lH aj (.one c)=[])\/lH aj (.one c)=[f]:=by
 rcases h with⟨m,H⟩|⟨m,g,H,v⟩
 .cases H;exact .inl ⟨m,acU⟩
 cases H;exact .inr (show o6 aj 6 (.hsl f g z 0 (I j))=[f]from KG (n:=5) v)
section
variable {al:cT} {Q:hs} {h:ct} {aj:aN} {os:fI} {d:eC}
def akw{f id:Nat}{c:dI}(g:∀ {al:cT}{aj:aN},j=[]\/al.ok id->cg id u z j (.one c) aj->∃v A,lK S f [.one c] al aj v A/\IT id u z j c aj v A)(ae:S.sites f=[f])(H:cg id u z j (.one c) aj)(O:al.ok id)(n:al.fs.contains f)
  (B:∀A,cg id u z j.reverse (.one c) A->(∀i,i≠id->A i=aj i)->jI S al os Q (dP h d (.tup [])) A):kn S al (.sc f [.one c]) d os Q h aj:=by
 refine sG (P:=IT id u z j c aj) (OW ?_ ?_) (g ?_ H) ?_
 .show al.iA ([V.one c].map (lH aj)).flatten=true;rcases UL H with⟨_,m⟩|m
  .simp[m,cT.iA]
  simp[m,cT.iA,O]
 .show(S.sites f).all al.fs.contains=true;rw[ae];simp only[vg,yF,n,OX]
 .rcases UL H with⟨m,_⟩|m
  .exact .inl m
  exact .inr (tu (by simp[m]))
 rintro v A ⟨rfl,y,x⟩
 exact B A y x
end
def ap1:S.sites 170=[170]:=ah
def awW:S.sites 171=[171]:=ah
def acJ(ok:gh F g)(h:x<bt g):bz g x<bt g:=S_ ok.kK ok.hp h
abbrev uC(id:Nat):Prop:=kW id=144
structure akb (ls:ai) (jn gS idB gB g8 gF:Nat) (sp:dS) (f:dt) (cd cp cf:dI) (aj:aN):Prop where
 bS:aj jn=(gS,some (.arr 4 1 (dB sp)))
 bB:aj idB=(gB,some (.arr 4 1 (dB (DI ls))))
 b8:aj 9216000000=(g8,some (.var [.p (.bool false),.p .nils,.p .nils,.p .nils,.p (.bool false)]))
 bF:aj 9216128448=(gF,some (.var [.p (.bool f.eF),cd,cp,cf,.p (.bool f.outer)]))
 gd:cg 9216512256 3 1 (a_ f.bQ) (.one cd) aj
 gp:cg 9216896192 xn 2 (eO f.places) (.one cp) aj
 gf:cg 9216896448 3 1 (a_ f.rH) (.one cf) aj
def auF(ok:gh F g){k:Nat}(j:x<bt g)(h:I f.bQ<=k/\I f.places<=k*(2*F+2)/\I f.rH<=k*(2*F+2)):(f.add F g x).bQ.length<=k+1/\(f.add F g x).places.length<=(k+1)*(2*F+2)/\(f.add F g x).rH.length<=(k+1)*(2*F+2):=by
 obtain⟨i1,i2,i3⟩:=h;rw[Nat.succ_mul];unfold dt.add;by_cases h:x<2*I g
 .rw[aD h];simp only[gT,dW,fU];exact⟨J,J,J⟩
 rw[aC h];have H:(x-2*I g)/2<I (aE g):=by unfold bt at j;omega
 have L:=Rz ok H;have m:=VX ok H;refine⟨by simp only;omega,?_,?_⟩
 .simp only[gT];split<;>(try rw[jl])<;>omega
 simp only[gT];split<;>(try rw[jl])<;>omega
def aud{al:cT}(ok:gh F g)(hF:F<=1000)(O:∀id,uC id->al.ok id){jn g8 gF d:Nat}(oS:al.ok jn)(nS:¬uC jn)(nB:¬uC n)(a3:jn≠n)(f1:al.fs.contains 170)(f2:al.fs.contains 171)(hd:d<2*I g):
  ∀(m k x:Nat) (u:dS) (f:dt) (h:ct) (aj:aN) (cd cp cf:dI),h 0=.one (.p (mD F g))->h 2=.one (.hsl jn v 1 0 (2*I g))->h 8=.one (.bm 9216000000 g8 0)->h 9=aH (I g)->h 10=aH (I (aE g))->h 11=.one (.bm 9216128448 gF 0)->h 12=aH x->
   akb g jn v n A g8 gF (u.take (2*I g)) f cd cp cf aj->I u=bt g->x<bt g->Inv (bz g) (bt g) d u x->zM u<m->(k+m<=5000000)->(I f.bQ<=k/\I f.places<=k*(2*F+2)/\I f.rH<=k*(2*F+2))->
   (∀Z aq AU qT zH,Z 8=h 8->Z 11=h 11->akb g jn v n A g8 gF ((g_ (bz g) m x u).2.take (2*I g)) ((g_ (bz g) m x u).1.foldl (dt.add F g) f) AU qT zH aq->(∀id,¬(uC id\/id=jn)->aq id=aj id)->Q .normal Z aq)->
   ch S al (.loop Oe) (oR 0 Q) h aj:=by
 have hl:=ok.hl;have jQ:I (aE g)<=1000000:=ny (sF g (I g)) hl;have iU:bt g<=4000000:=by unfold bt;omega
 have m2:=rB (a:=I g) J;have k0:al.ok 9216000000:=O _ rfl;have kF:al.ok 9216128448:=O _ rfl;have aG:al.ok 9216512192:=O _ rfl;have kd:al.ok 9216512256:=O _ rfl;have kp:al.ok 9216896192:=O _ rfl;have kf:al.ok 9216896448:=O _ rfl;have ab:al.ok 9216640128:=O _ rfl;have ac:al.ok 9216640129:=O _ rfl;have hm:=qS ok;intro m
 induction m with
 |zero=>intro k x u f h aj cd cp cf _ _ _ _ _ _ _ _ _ _ _ az;omega
 |succ m ih=>
  intro k x u f h aj cd cp cf L B D M E z X H L5 Br hi hu hk ar Y;have ba:=hm.le;obtain⟨l1,l2,l3⟩:=ar;have bb:k*(2*F+2)<=5000000*2002:=Uv J J;have JK:=auF ok Br ⟨l1,l2,l3⟩;unfold g_ at Y;have N:∀ {a:Nat},uC a->a≠jn:=λaz e=>nS (e▸az);have j:∀ {a:Nat},uC a->a≠n:=λaz e=>nB (e▸az);have nF:¬(9216128448=jn):=N rfl;refine sZ ?_;cases ae:u.getD x true with
  |true=>
   have a9:=hi.i4 ae;have aw:x<2*I g:=J;have aM:((x:Int)<((2*I g:Nat):Int)):=J;rw[ae]at Y;simp only[if_true]at Y;have hb:(u.take (2*I g))[x]?=some true:=by
    have h1:=Wr aw (show 2*I g<=I u by omega);rw[show dL u x=true from ae,dC]at h1;have Ag:x<I (u.take (2*I g)):=by rw[gX];omega
    obtain⟨b,hb⟩:=aT Ag;rw[hb]at h1 |-;exact congrArg some h1
   have ng:=qO hb;simp only[go_sem,Oe,L,B,D,M,E,z,X,m2,aM,aw,H.bS,ng,oS];exact Y _ _ cd cp cf (by simp only[go_sem]) (by simp only[go_sem]) H (λ_ _=>rfl)
  |false=>
   have Mt:u[x]?=some false:=by
    rw[dC]at ae;cases h1:u[x]? with
    |none=>rw[h1]at ae;cases ae
    |some b=>rw[h1]at ae;exact congrArg some ae
   have Ij:=ND Mt;have pt:=agX ok x (by unfold bt at Br;exact Br);have cV:=hi.step hm L5 Br ae;rw[ae]at Y;simp only[eI,if_false,sh]at Y;by_cases yH:x<2*I g
   .have aM:((x:Int)<((2*I g:Nat):Int)):=J;have hb:(u.take (2*I g))[x]?=some false:=by rw[nE,aD yH];exact Mt
    have ng:=qO hb;have ir:=Jo (u.take (2*I g)) x true;rw[ahl]at ir;have a7:f.add F g x={f with bQ:=f.bQ++[x]}:=by unfold dt.add;rw[aD yH]
    simp only[go_sem,Oe,L,B,D,M,E,z,X,m2,aM,yH,H.bS,H.bF,ng,ir,oS,kF,aG,nF];refine Vc (y:=9216512256) (id:=9216512256) (bytes:=8) (B:=[[.int .i64 (x:Int)]]) (rd:=[9216512192]) (by simp[kd,aG]) (H.gd.of_eq ((bK U).trans (bK (N rfl)))) (by simp[js,cD]) (.inl rfl) (by simp only[cY,dW,fU];omega) λc bh hc aW=>?_;have Mg:∀i,i≠9216512192->i≠9216512256->i≠jn->bh i=aj i:=λi a b c=>(aW i b b).trans ((bK a).trans (bK c))
    have a5:=(aW jn (N rfl).symm (N rfl).symm).trans ((bK (N rfl).symm).trans vx);have Ce:=(Mg 9216128448 U U (N rfl)).trans H.bF;simp only[go_sem,Ce,L,B,D,M,E,z,X,kF,Rr,QB pt];refine ih (k+1) (bz g x) (u.set x true) (f.add F g x) _ _ c cp cf ?_ ?_ ?_ ?_ ?_ ?_ ?_ ?_ (by rw[jo];exact L5) (acJ ok Br) cV J J JK ?_
    .simp only[go_sem,L]
    .simp only[go_sem,B]
    .simp only[go_sem,D]
    .simp only[go_sem,M]
    .simp only[go_sem,E]
    .simp only[go_sem,z]
    .simp only[go_sem]
    .rw[a7];refine⟨?_,?_,?_,vx,?_,?_,?_⟩
     .exact(bK (N rfl).symm).trans a5
     .exact(bK (j rfl).symm).trans ((Mg _ (j rfl).symm (j rfl).symm a3.symm).trans H.bB)
     .exact(bK U).trans ((Mg _ U U (N rfl)).trans H.b8)
     .exact(z_ _ _▸hc.of_eq (bK U))
     .exact(H.gp.of_eq (Mg _ U U (N rfl))).of_eq (bK U)
     exact(H.gf.of_eq (Mg _ U U (N rfl))).of_eq (bK U)
    intro Z aq AU qT zH q8 Dy Ba dz;refine Y Z aq AU qT zH (by rw[q8];simp only[go_sem]) (by rw[Dy];simp only[go_sem]) Ba λid hn=>?_;have a:∀y,uC y->id≠y:=λy hy e=>hn (.inl (e▸hy));exact(dz id hn).trans ((bK (a _ rfl)).trans (Mg id (a _ rfl) (a _ rfl) λe=>hn (.inr e)))
   have hj:(x-2*I g)/2<I (aE g):=by unfold bt at Br;omega
   have vU:=aqa ok hF hj;have lP:=Rz ok hj;have lF:=VX ok hj;have CH:¬((x:Int)<((2*I g:Nat):Int)):=J;have ws:=UR (a:=x) (b:=2*I g) J J;have wq:=wrap_small (n:=(x-2*I g)/2) J;have w2:=EF (a:=I (aE g)) J J;have JD:((((x-2*I g)/2:Nat):Int)==((I (aE g)-1:Nat):Int))=decide ((x-2*I g)/2+1=I (aE g)):=by
    by_cases az:(x-2*I g)/2+1=I (aE g)
    .rw[pA az];simp;omega
    rw[nr az];simp;omega
   have sy:(f.add F g x).outer=(f.outer||decide ((x-2*I g)/2+1=I (aE g))):=by unfold dt.add;rw[aC yH]
   have ag:(f.add F g x).eF=f.eF:=by unfold dt.add;rw[aC yH]
   have ad:(f.add F g x).bQ=f.bQ:=by unfold dt.add;rw[aC yH]
   have JQ:(f.add F g x).places=f.places++(if x%2=0 then pI F g ((x-2*I g)/2)else(pI F g ((x-2*I g)/2)).reverse):=by unfold dt.add;rw[aC yH]
   have En:(f.add F g x).rH=f.rH++(if x%2=0 then As F g ((x-2*I g)/2)else(As F g ((x-2*I g)/2)).reverse):=by unfold dt.add;rw[aC yH]
   generalize f.add F g x=f' at sy ag ad JQ En Y JK;have jk:S.lone 9216640128=false:=ah;have a1:∀l:rV,((eO l).all λe=>e.all PV.scalar):=λl=>by simp[PV.scalar]
   have a2:∀l:aF,((a_ l).all λe=>e.all PV.scalar):=λl=>by simp[PV.scalar]
   have a8:∀l:rV,∀e∈eO l,I e=2/\ ∀a6∈e,a6.norm=a6:=λl e he=>by obtain⟨a,_,rfl⟩:=dY.1 he;exact⟨rfl,λa6 hv=>by simp at hv;rcases hv with rfl|rfl<;>rfl⟩
   have aO:∀l:aF,∀e∈a_ l,I e=1/\ ∀a6∈e,a6.norm=a6:=λl e he=>by obtain⟨a,_,rfl⟩:=dY.1 he;exact⟨rfl,λa6 hv=>by simp at hv;rcases hv with rfl;rfl⟩
   have kX:S.shared 170:=ah;have a4:S.shared 171:=ah;have iw:(u.set x true).take (2*I g)=u.take (2*I g):=ai6 J;generalize pI F g ((x-2*I g)/2)=PP at*;generalize As F g ((x-2*I g)/2)=FF at*;simp only[go_sem,Oe,L,B,D,M,E,z,X,m2,CH,ws,wq,eH,fW,aDe];refine aoZ (by simp[ab,ac]) vU jk (a1 _) (a2 _) λc e bG hc he hb=>?_;by_cases ez:x%2=0
   .have CZ:((x:Int).tmod 2==1)=false:=by rw[k_,ez];rfl
    rw[aD ez]at JQ En;have hP:=hc;have hE:=he;have F6:∀i,i≠9216640128->i≠9216640129->bG i=aj i:=hb;have R:=(F6 9216128448 U U).trans H.bF;simp only[go_sem,eH,CZ,R,L,B,D,M,E,z,X,kF];obtain⟨rP,Kb,Qa⟩:=hP.elems;refine VN (y:=9216896192) (id:=9216896192) (bytes:=16) (by rcases Qa with rfl|rfl<;>simp[kp,ab]) (H.gp.of_eq (F6 _ U U)) Kb hP.ao (by simp only[cY,jl];omega) λc2 St r1 u1 lz iF fE=>?_
    have Ce:=(iF 9216128448 U U).trans R;simp only[go_sem,Ce,L,B,D,M,E,z,X,kF];obtain⟨rE,Ka,P9⟩:=(hE.of_eq (iF _ U U)).elems;refine VN (y:=9216896448) (id:=9216896448) (bytes:=8) (by rcases P9 with rfl|rfl<;>simp[kf,ac]) (H.gf.of_eq ((iF _ U U).trans (F6 _ U U))) Ka hE.ao (by simp only[cY,jl];omega) λc9 FC r2 u2 zW zU xR=>?_
    have xA:=(zU 9216128448 U U).trans Ce;have T:∀i,i≠9216640128->i≠9216640129->i≠9216896192->i≠9216896448->FC i=aj i:=λi a b c d=>(zU i d d).trans ((iF i c c).trans (F6 i a b));have ap:cg 9216896192 xn 2 (eO f'.places) (.one c2) FC:=by rw[JQ,BB];exact lz.of_eq (zU _ U U)
    have am:cg 9216896448 3 1 (a_ f'.rH) (.one c9) FC:=by rw[En,z_];exact zW
    clear lz zW;cases ho:f.outer;all_goals
     rw[ho]at xA;simp only[go_sem,xA,L,B,D,M,E,z,X,kF,w2,JD,Rr,QB pt];refine⟨?_,?_⟩
     .rcases Qa with rfl|rfl<;>rcases P9 with rfl|rfl<;>rcases fE with⟨rfl,rfl⟩|⟨rfl,rfl⟩|⟨rfl,rfl⟩<;>rcases xR with⟨rfl,rfl⟩|⟨rfl,rfl⟩|⟨rfl,rfl⟩<;>kernel_rfl
     refine ih (k+1) (bz g x) (u.set x true) f' _ _ cd c2 c9 ?_ ?_ ?_ ?_ ?_ ?_ ?_ ?_ (by rw[jo];exact L5) (acJ ok Br) cV J J JK ?_
     .simp only[go_sem,L]
     .simp only[go_sem,B]
     .simp only[go_sem,D]
     .simp only[go_sem,M]
     .simp only[go_sem,E]
     .simp only[go_sem,z]
     .simp only[go_sem]
     .rw[iw];refine⟨?_,?_,?_,?_,?_,?_,?_⟩
      .exact(bK (N rfl).symm).trans ((bK (N rfl).symm).trans ((bK (N rfl).symm).trans ((T _ (N rfl).symm (N rfl).symm (N rfl).symm (N rfl).symm).trans H.bS)))
      .exact(bK (j rfl).symm).trans ((bK (j rfl).symm).trans ((bK (j rfl).symm).trans ((T _ (j rfl).symm (j rfl).symm (j rfl).symm (j rfl).symm).trans H.bB)))
      .exact(bK U).trans ((bK U).trans ((bK U).trans ((T _ U U U U).trans H.b8)))
      .rw[vx,ag,sy,ho];rfl
      .rw[ad];exact H.gd.of_eq ((bK U).trans ((bK U).trans ((bK U).trans (T _ U U U U))))
      .exact ap.of_eq ((bK U).trans ((bK U).trans (bK U)))
      exact am.of_eq ((bK U).trans ((bK U).trans (bK U)))
     intro Z aq AU qT zH q8 Dy Ba dz;refine Y Z aq AU qT zH (by rw[q8];simp only[go_sem]) (by rw[Dy];simp only[go_sem]) Ba λid hn=>?_;have a:∀y,uC y->id≠y:=λy hy e=>hn (.inl (e▸hy));exact(dz id hn).trans ((bK (a _ rfl)).trans ((bK (a _ rfl)).trans ((bK (a _ rfl)).trans (T id (a _ rfl) (a _ rfl) (a _ rfl) (a _ rfl)))))
   have CZ:((x:Int).tmod 2==1):=by rw[k_,show x%2=1 by omega];rfl
   rw[aC ez]at JQ En;simp only[go_sem,eH,CZ,L,B,D,M,E,z,X,kX];refine akw (f:=170) (λo az=>apt o (by simp only[cY];omega) (a8 _) az) ap1 hc ab f1 λbh lQ aW=>?_;simp only[go_sem,a4];refine akw (f:=171) (λo az=>arx o (by simp only[cY];omega) (aO _) az) awW (he.of_eq (aW _ U)) ac f2 λmW a0 iL=>?_;have hP:cg 9216640128 xn 2 (eO PP.reverse) (.one c) mW:=by rw[eO,List.map_reverse];exact lQ.of_eq (iL _ U)
   have hE:cg 9216640129 3 1 (a_ FF.reverse) (.one e) mW:=by rw[a_,List.map_reverse];exact a0
   have F6:∀i,i≠9216640128->i≠9216640129->mW i=aj i:=λi a b=>(iL i b).trans ((aW i a).trans (hb i a b));have R:=(F6 9216128448 U U).trans H.bF;simp only[go_sem,eH,CZ,R,L,B,D,M,E,z,X,kF];obtain⟨rP,Kb,Qa⟩:=hP.elems;refine VN (y:=9216896192) (id:=9216896192) (bytes:=16) (by rcases Qa with rfl|rfl<;>simp[kp,ab]) (H.gp.of_eq (F6 _ U U)) Kb hP.ao (by simp only[cY,jl];omega) λc2 St r1 u1 lz iF fE=>?_
   have Ce:=(iF 9216128448 U U).trans R;simp only[go_sem,Ce,L,B,D,M,E,z,X,kF];obtain⟨rE,Ka,P9⟩:=(hE.of_eq (iF _ U U)).elems;refine VN (y:=9216896448) (id:=9216896448) (bytes:=8) (by rcases P9 with rfl|rfl<;>simp[kf,ac]) (H.gf.of_eq ((iF _ U U).trans (F6 _ U U))) Ka hE.ao (by simp only[cY,jl];omega) λc9 FC r2 u2 zW zU xR=>?_
   have xA:=(zU 9216128448 U U).trans Ce;have T:∀i,i≠9216640128->i≠9216640129->i≠9216896192->i≠9216896448->FC i=aj i:=λi a b c d=>(zU i d d).trans ((iF i c c).trans (F6 i a b));have ap:cg 9216896192 xn 2 (eO f'.places) (.one c2) FC:=by rw[JQ,BB];exact lz.of_eq (zU _ U U)
   have am:cg 9216896448 3 1 (a_ f'.rH) (.one c9) FC:=by rw[En,z_];exact zW
   clear lz zW;cases ho:f.outer;all_goals
    rw[ho]at xA;simp only[go_sem,xA,L,B,D,M,E,z,X,kF,w2,JD,Rr,QB pt];refine⟨?_,?_⟩
    .rcases Qa with rfl|rfl<;>rcases P9 with rfl|rfl<;>rcases fE with⟨rfl,rfl⟩|⟨rfl,rfl⟩|⟨rfl,rfl⟩<;>rcases xR with⟨rfl,rfl⟩|⟨rfl,rfl⟩|⟨rfl,rfl⟩<;>kernel_rfl
    refine ih (k+1) (bz g x) (u.set x true) f' _ _ cd c2 c9 ?_ ?_ ?_ ?_ ?_ ?_ ?_ ?_ (by rw[jo];exact L5) (acJ ok Br) cV J J JK ?_
    .simp only[go_sem,L]
    .simp only[go_sem,B]
    .simp only[go_sem,D]
    .simp only[go_sem,M]
    .simp only[go_sem,E]
    .simp only[go_sem,z]
    .simp only[go_sem]
    .rw[iw];refine⟨?_,?_,?_,?_,?_,?_,?_⟩
     .exact(bK (N rfl).symm).trans ((bK (N rfl).symm).trans ((bK (N rfl).symm).trans ((T _ (N rfl).symm (N rfl).symm (N rfl).symm (N rfl).symm).trans H.bS)))
     .exact(bK (j rfl).symm).trans ((bK (j rfl).symm).trans ((bK (j rfl).symm).trans ((T _ (j rfl).symm (j rfl).symm (j rfl).symm (j rfl).symm).trans H.bB)))
     .exact(bK U).trans ((bK U).trans ((bK U).trans ((T _ U U U U).trans H.b8)))
     .rw[vx,ag,sy,ho];rfl
     .rw[ad];exact H.gd.of_eq ((bK U).trans ((bK U).trans ((bK U).trans (T _ U U U U))))
     .exact ap.of_eq ((bK U).trans ((bK U).trans (bK U)))
     exact am.of_eq ((bK U).trans ((bK U).trans (bK U)))
    intro Z aq AU qT zH q8 Dy Ba dz;refine Y Z aq AU qT zH (by rw[q8];simp only[go_sem]) (by rw[Dy];simp only[go_sem]) Ba λid hn=>?_;have a:∀y,uC y->id≠y:=λy hy e=>hn (.inl (e▸hy));exact(dz id hn).trans ((bK (a _ rfl)).trans ((bK (a _ rfl)).trans ((bK (a _ rfl)).trans (T id (a _ rfl) (a _ rfl) (a _ rfl) (a _ rfl)))))
structure cE (F:Nat) (ls:ai):Prop where
 ok:gh F ls
 len:I ls<=400
 cr:an aa.aB ls<=200
 fing:F<=40
 ne:ls≠[]
 first:∃l,ls[0]?=some l/\l.aI
 even:an aa.aI ls%2=0
 bad:∀l∈ls,ek F l=false
 chk:de F ls=0
 nw:gC ls=an aa.aI ls+an aa.aB ls/2+2
def EM{f:Int}(h:de f g=0)(A:g≠[]):∃F:Nat,f=(F:Int)/\cE F g:=by
 have z:=h;unfold de at h;by_cases n:400<I g\/200<an aa.aB g
 .rw[aD n]at h;cases h
 rw[aC n]at h;by_cases m:f<0\/40<f
 .rw[aD m]at h;cases h
 rw[aC m,aC A]at h;cases H:oD f g with
 |false=>rw[H]at h;simp at h
 |true=>
  obtain⟨F,rfl⟩:=o_ (show 0<=f by omega);refine⟨F,rfl,?_⟩;unfold oD at H;simp only[c6]at H;obtain⟨⟨⟨u,y⟩,x⟩,B⟩:=H;obtain⟨N,M,O⟩:=aaU.1 x;have j:∀l∈g,ek F l=false:=λl hl=>by simpa using E6.1 N l hl
  have D:tE F g:=λl hl hp=>((oX hp).1 (j l hl)).1.1.1;obtain⟨g1,E⟩:=(NG D).1 M;obtain⟨L,v⟩:=aT (jH.2 A);rw[v]at u;exact⟨⟨J,⟨g1,E⟩,O,λl hl=>Dg (j l hl)⟩,J,J,J,A,⟨L,v,u⟩,by simpa using y,j,z,by simpa using B⟩
def cE.axne(f:cE F g):aE g≠[]:=by obtain⟨l,H,h⟩:=f.first;exact List.ne_nil_of_mem (uk.2 ⟨l,H,h⟩)
def agm(F:Nat)(g:ai)(jn v:Nat)(x:Nat)(n:dS)(aj:aN)(u:V)(A:aN):Prop:=
 ∃f h m j,f=((g_ (bz g) (bt g+1) x n).1).foldl (dt.add F g) (dt.new g x)/\u=.agg [.p (.bool f.eF),h,m,j,.p (.bool f.outer)]/\A jn=(v,some (.arr 4 1 (dB ((g_ (bz g) (bt g+1) x n).2.take (2*I g)))))/\
  cg 9216512256 3 1 (a_ f.bQ) (.one h) A/\cg 9216896192 xn 2 (eO f.places) (.one m) A/\cg 9216896448 3 1 (a_ f.rH) (.one j) A/\dE (λid=>uC id\/id=jn) aj A
def avA{al:cT}{F:Nat}{g:ai}(ok:gh F g)(hF:F<=1000)(O:∀id,uC id->al.ok id){jn:Nat}(oS:al.ok jn)(oB:al.ok n)(Q:¬uC jn)(X:¬uC n)(u:jn≠n)(f1:al.fs.contains 170)(f2:al.fs.contains 171){j:dS}{aj:aN}
  (hx:x<2*I g) (Z:I j=bt g) (Y:OH (bz g) (bt g) j) (ae:j.getD x true=false) (bS:aj jn=(v,some (.arr 4 1 (dB (j.take (2*I g)))))) (bB:aj n=(A,some (.arr 4 1 (dB (DI g))))):
  ∃ac m,lK S 144 [.one (.p (mD F g)),aH x,.one (.hsl jn v 1 0 (2*I g)),.one (.hsl n A 1 0 (I g))] al aj ac m/\agm F g jn v x j aj ac m:=by
 have hl:=ok.hl;have jQ:I (aE g)<=I g:=sF g (I g);have iU:bt g<=4000000:=by unfold bt;omega
 have H:al.ok 9216000000:=O _ rfl;have L:al.ok 9216128448:=O _ rfl;have wq:=wrap_small (n:=x/2) J;have E:x/2<I g:=J;have D:=qO (aAB E);have f:∀ {a:Nat},uC a->a≠jn:=λh e=>Q (e▸h);have N:∀ {a:Nat},uC a->a≠n:=λh e=>X (e▸h);have z:¬(n=9216000000):=λe=>N rfl e.symm
 have ab:=Mf j;refine qK axi (jc rfl) ?_;simp only[go_sem,anU,bB,z,H,L,oB,eH,fW,wq,E,D];refine⟨aA,?_⟩;refine aud ok hF O (jn:=jn) (v:=v) (n:=n) (A:=A) (g8:=(aj 9216000000).1+1) (gF:=(aj 9216128448).1+1) (d:=x) oS Q X u f1 f2 hx (bt g+1) 0 x j (dt.new g x) _ _ (.p .nils) (.p .nils) (.p .nils) ?_ ?_ ?_ ?_ ?_ ?_ ?_ ?_ Z (by unfold bt;omega) (Inv.start Y ae) J J ⟨c3 _,cG _,cG _⟩ ?_
 .simp only[go_sem]
 .simp only[go_sem]
 .simp only[go_sem]
 .simp only[go_sem]
 .simp only[go_sem]
 .simp only[go_sem]
 .simp only[go_sem]
 .refine⟨?_,?_,?_,?_,cg.nil,cg.nil,cg.nil⟩
  .simp only[bK (f (a:=9216000000) rfl).symm,bK (f (a:=9216128448) rfl).symm,bS]
  .simp only[bK (N (a:=9216000000) rfl).symm,bK (N (a:=9216128448) rfl).symm,bB]
  .simp only[go_sem]
  simp only[go_sem,dt.new]
 intro aL m AU qT zH T M B dz;simp only[go_sem]at T M;have h8:=B.b8;have hf:=B.bF;simp only[go_sem,anj,T,M,h8,hf,H,L];refine⟨_,AU,qT,zH,rfl,rfl,?_,?_,?_,?_,λid R=>?_⟩
 .exact(bK (f rfl).symm).trans B.bS
 .exact B.gd.of_eq (bK U)
 .exact B.gp.of_eq (bK U)
 .exact B.gf.of_eq (bK U)
 have a:∀y,uC y->id≠y:=λy hy e=>R (.inl (e▸hy));refine(bK (a _ rfl)).trans ((dz id R).trans ?_);simp only[bK (a 9216000000 rfl),bK (a 9216128448 rfl)]
def nA{c:dI}{x:PV}{aj:aN}(h:cg D y B j (.one c) aj):iR aj (.tup [.one c,.one (.p x)])=some (.tup [.one (cF y B j),.one (.p x)]):=by obtain⟨m,o,g,H,f⟩:=h.ij;cases g;rcases f with rfl|rfl<;>simp[iR,n_,vE,lX,kS,H,(show Go.Abs.ij aj (.p x)=some (.p x,[],[])from rfl),mg,pK,oh,EL]
def It{aj:aN}{id g g0 o l f:Nat}(h:aj id=(g0,some (.arr u f j))):lH aj (.one (.hsl id g z o l))=[id]:=(KG h:o6 aj 6 (.hsl id g z o l)=[id])
def azF:(S.sites 144).contains 144:=ah
def ayB:(S.sites 144).contains 170:=ah
def awz:(S.sites 144).contains 171:=ah
def anZ{S:dS}{n k:Nat}{b:Bool}(H:k<n)(g:n<=I S)(h:S.getD k true=b):(S.take n)[k]?=some b:=by rw[nE,aD H];rw[dC]at h;obtain⟨c,f⟩:=aT (show k<I S by omega);rw[f]at h |-;exact congrArg some h
def auq(aq:cE F g):aK S 116 [c_ F g] (.tup [.one (cF sq 5 (kz (dG F g))),.one (.p (.int .i64 0))]):=by
 have ok:=aq.ok;have hl:=ok.hl;have hF:F<=1000:=by have:=aq.fing;omega
 have jQ:I (aE g)<=I g:=sF g (I g);have ap:=aq.len;have iU:bt g<=4000000:=by unfold bt;omega
 have x:2*I g<=bt g:=by unfold bt;omega
 have pr:=MG F g hl;rw[Kp aq.chk,aC aq.ne,nP]at pr;have pb:=aoT ok;have hm:=qS ok;have m2:=rB (a:=I g) J;have nY:2*I g<=140737488355328:=J;have yQ:List.replicate (2*I g) [PV.bool false]=dB ((fe (bz g) (bt g) 0).2.take (2*I g)):=by show _=dB ((List.replicate (bt g) false).take (2*I g));rw[List.take_replicate,vm x];simp
 have ab:∀aj:aN,fg aj [] 7424384064 ((RV.one (.own 4 1 (dB (DI g)))).fR (S.lone 7424384064))=some (.one (.hsl 7424384064 ((aj 7424384064).1+1) 1 0 (I g)),[(7424384064,((aj 7424384064).1+1,some (.arr 4 1 (dB (DI g)))))]):=by intro aj;rw[show S.lone 7424384064=false by kernel_rfl];show some (V.one (.hsl 7424384064 ((aj 7424384064).1+1) 1 0 (I (dB (DI g)))),_)=_;rw[show(dB (DI g)).length=I g by simp[vM]];rfl
 have eX:S.shared 144:=ah;refine bj adr ?_;simp only[go_sem,UO,Ft,aU pr cM,ag6,aU pb (ab _),m2,nY,yQ];refine dy (λk h aj=>h 4=.one (.p (mD F g))/\h 7=.one (.hsl 7424320448 1 1 0 (2*I g))/\h 8=.one (.hsl 7424384064 1 1 0 (I g))/\h 29=aH ((2*I g:Nat):Int)/\h 30=aH k/\
   aj 7424320448=(1,some (.arr 4 1 (dB ((fe (bz g) (bt g) k).2.take (2*I g)))))/\aj 7424384064=(1,some (.arr 4 1 (dB (DI g))))/\
   ∃O,h 6=.one O/\cg 7424704448 sq 5 (kz ((fe (bz g) (bt g) k).1.map (jg F g))) (.one O) aj) 0 (2*I g) (cG _) ?_ ?_
 .simp only[go_sem];first|exact⟨rfl,rfl,rfl,_,rfl,.inl ⟨rfl,rfl⟩⟩|exact⟨rfl,rfl,_,rfl,.inl ⟨rfl,rfl⟩⟩|exact⟨rfl,_,rfl,.inl ⟨rfl,rfl⟩⟩|exact⟨rfl,rfl,rfl,rfl,_,rfl,.inl ⟨rfl,rfl⟩⟩
 rintro k h aj hk ⟨H,L,u,y,z,bS,bB,O,N,go⟩
 by_cases A:k<2*I g
 .have aM:((k:Int)<((2*I g:Nat):Int)):=J;have w1:=cN (n:=k) J;obtain⟨cS,_⟩:=Ux hm k J;have j:=Hj (bz g) (bt g) k;have Ib:=Kx (bz g) (bt g) k;have m:=zO (bz g) (bt g) k;generalize hw:fe (bz g) (bt g) k=st at*;obtain⟨o,M⟩:=st;simp only at cS j Ib bS go;unfold wz at m;cases ae:M.getD k true with
  |true=>simp only[ae,if_true]at m;have T:=qO (anZ A J ae);simp only[go_sem,P2,H,N,L,u,y,z,bS,bB,A,aM,T,w1,m];exact⟨O,rfl,go⟩
  |false=>
   simp only[ae,eI,if_false,j]at m;have T:=qO (anZ A J ae);obtain⟨t,ht⟩:=anA (bz g) (k:=bt g) ae;have Bh:((g_ (bz g) (bt g+1) k M).1).foldl (dt.add F g) (dt.new g k)=jg F g (g_ (bz g) (bt g+1) k M).1:=by unfold jg;rw[ht];rfl
   have X:=ag3 (F:=F) (t:=t) A;rw[<-ht]at X;simp only[go_sem,P2,H,N,L,u,y,z,bS,bB,A,aM,T,w1,eX];have E:lH aj (.one (.hsl 7424320448 1 1 0 (2*I g)))=[7424320448]:=It bS;have Qb:lH aj (.one (.hsl 7424384064 1 1 0 (I g)))=[7424384064]:=It bB;refine sG (P:=agm F g 7424320448 1 k M aj) t_ (avA ok hF (λid R=>yu (by rw[R];exact azF)) (tu ?_) (tu ?_) U U U ?_ ?_ A j cS ae bS bB) ?_
   .simp only[eJ,mO,E,Qb];simp
   .simp only[eJ,mO,E,Qb];simp
   .exact ayB
   .exact awz
   rintro v bG ⟨f,cd,cp,cf,hf,rfl,ag,gd,gp,gf,dz⟩
   rw[Bh]at hf;rw[<-hf]at X;have Oj:=(dz 7424384064 U).trans bB;have B:=go.of_eq (dz 7424704448 U);have sy:kz (o.map (jg F g))++[f.ps]=kz ((fe (bz g) (bt g) (k+1)).1.map (jg F g)):=by rw[m,hf];simp
   have Z:(fe (bz g) (bt g) (k+1)).2=(g_ (bz g) (bt g+1) k M).2:=by rw[m]
   have Y:I (kz (o.map (jg F g)))<=k:=by simpa using Ib
   generalize kz (o.map (jg F g))=am at B sy Y;have D:=gd;rcases gd with⟨e,_⟩|⟨_,gg,e,iG⟩
   .simp at e;exact absurd e X
   cases e;simp only[go_sem,H,N,L,u,y,z,anN];rw[cY]at D;obtain⟨fr,hx,Em,yK⟩:=aet (aj:=dx bG 7424704384 ((bG 7424704384).1+1,some (.lN sq 5 [[.p (.bool f.eF),.hsl 9216512256 gg 1 0 (I f.bQ),cp,cf,.p (.bool f.outer)]]))) (s:=7424704384) vx (D.of_eq (bK U)) (gp.of_eq (bK U)) (gf.of_eq (bK U));have Q:∀i,i≠9216512256->i≠9216896192->i≠9216896448->i∉fr:=λi a b c R=>by
    rcases yK i R with R|R|R
    .exact a R
    .exact b R
    exact c R
   refine afg (y:=7424704448) (id:=7424704448) (bytes:=88) (B.of_eq (bK U)) hx Em (Q _ U U U) (Q _ U U U) (.inl rfl) (by simp only[dW,fU];omega) λc bh hc aW=>?_;have ac:=(aW 7424320448 U U (Q _ U U U)).trans ((bK U).trans ag);have ad:=(aW 7424384064 U U (Q _ U U U)).trans ((bK U).trans Oj);simp only[go_sem,H,N,L,u,y,z,ac,ad,w1,A,Z];refine⟨c,rfl,?_⟩;rw[<-sy];exact hc
 have:k=2*I g:=J;subst this;simp only[go_sem,P2,aaK,H,N,L,u,y,z,eR];have:=Y8 hm (bt g) x (c3 _);unfold dG fz;rw[this];exact nA go
structure aR where
 l:aa
 d:Bool
abbrev cX:=List aR
def aR.ps(p:aR):b_:=[.int .i64 p.l.kind,.int .i64 p.l.gate,.int .i64 p.l.ay,.int .i64 p.l.id,.int .i64 p.l.sign,.bool p.l.over,.bool p.d]
abbrev di(o:cX):q_:=o.map aR.ps
abbrev lg:Nat:=172
def mw:aa:=⟨0,0,0,0,0,false⟩
def aQ(g:ai):cX:=(List.range (I g)).map λi=>⟨g.getD i mw,km g i⟩
def cW(g:ai):I (aQ g)=I g:=by simp[aQ]
def oJ{i:Nat}{l:aa}(h:g[i]?=some l):(aQ g)[i]?=some ⟨l,km g i⟩:=by have:=(cn.1 h).1;simp only[aQ,ig,qI this,rm,dC,h,kZ]
def kI{o:cX}{k:Nat}{p:aR}(h:o[k]?=some p):(di o)[k]?=some p.ps:=by simp[h]
def qQ(L:aF)(D:aF)(v:Nat):aF:=D.foldl (λL d=>L.set d v) L
def se:D4->Nat->aF->aF
 |[],_,L=>L
 |f::r,j,L=>se r (j+1) (qQ L f.bQ j)
def kO(F:Nat)(g:ai):aF:=se (dG F g) 0 (List.replicate (2*I g) 0)
def Nt(L D:aF)(v:Nat):I (qQ L D v)=I L:=by
 induction D generalizing L with
 |nil=>rfl
 |cons d D f=>show(qQ (L.set d v) D v).length=_;rw[f];simp
def apn(L a b:aF)(v:Nat):qQ L (a++b) v=qQ (qQ L a v) b v:=by simp[qQ]
def VW(fs:D4):∀(j:Nat) (L:aF),I (se fs j L)=I L:=by
 induction fs with
 |nil=>intro j L;rfl
 |cons f r g=>intro j L;show(se r (j+1) _).length=_;rw[g,Nt]
def asl(a:D4)(f:dt):∀(j:Nat) (L:aF),se (a++[f]) j L=qQ (se a j L) f.bQ (j+I a):=by
 induction a with
 |nil=>intro j L;rfl
 |cons g r h=>intro j L;show se (r++[f]) (j+1) _=_;rw[h];simp[se];congr 1;omega
def apz(F:Nat)(g:ai):∀(w:aF) (f:dt),(w.foldl (dt.add F g) f).bQ=f.bQ++w.filter (λx=>decide (x<2*I g)):=by
 intro w
 induction w with
 |nil=>intro f;simp
 |cons x w j=>
  intro f;rw[sh,j];unfold dt.add;by_cases h:x<2*I g
  .rw[aD h,List.filter_cons_of_pos (by simpa using h)];simp
  rw[aC h,VA (by simpa using h)]
def AB(F:Nat)(g:ai)(w:aF):(jg F g w).bQ=w.filter (λx=>decide (x<2*I g)):=by unfold jg;rw[apz];rfl
def ag9(h:f∈dG F g):∀d∈f.bQ,d<2*I g:=by
 obtain⟨w,_,rfl⟩:=dY.1 h;intro d H;rw[AB]at H
 simpa using(rY.1 H).2
def Kv(ok:gh F g)(h:f∈dG F g):I f.bQ<=bt g:=by obtain⟨w,H,rfl⟩:=dY.1 h;rw[AB];exact ny (List.length_filter_le _ _) (yh ok w H).2.1
def Su(F:Nat)(g:ai):I (dG F g)=gC g:=by simp[dG,gC]
def OI{o:D4}{k:Nat}{p:dt}(h:o[k]?=some p):(kz o)[k]?=some p.ps:=by simp[h]
abbrev kh(F:Nat)(ls:ai):PV:=.box [.int .i64 F,.sl (di (aQ ls)),.sl (kz (dG F ls)),.sl (a_ (kO F ls)),.int .i64 (an aa.aI ls:Nat),.int .i64 ((an aa.aB ls/2:Nat):Int),.sl (a_ (gy ls F))]
abbrev Qy(F:Nat)(ls:ai)(pc cf:dI):eE:=[.p (.int .i64 F),pc,cf,.hsl 5824256448 1 1 0 (2*I ls),.p (.int .i64 (an aa.aI ls:Nat)),.p (.int .i64 ((an aa.aB ls/2:Nat):Int)),.hsl 5824256960 1 1 0 (F+1)]
def aya{F:Nat}{g:ai}(am:cE F g){pc m:dI}{aj:aN}(h4:h 4=.one m)(h6:h 6=.one (.bm 5824257088 1 0))
  (bB:aj 5824257088=(1,some (.var (Qy F g pc m)))) (B:aj 5824256448=(1,some (.arr 3 1 (a_ (List.replicate (2*I g) 0))))) (E:aj 5824256960=(1,some (.arr 3 1 (a_ (gy g F))))) (gp:cg 5824896448 lg 7 (di (aQ g)) (.one pc) aj) (gf:cg 5824064064 sq 5 (kz (dG F g)) (.one m) aj)
  (hq:∀v A,v 6=h 6->A 5824257088=(1,some (.var (Qy F g pc m)))->A 5824256448=(1,some (.arr 3 1 (a_ (kO F g))))->A 5824256960=(1,some (.arr 3 1 (a_ (gy g F))))->cg 5824896448 lg 7 (di (aQ g)) (.one pc) A->cg 5824064064 sq 5 (kz (dG F g)) (.one m) A->ch S .all Tt Q v A):
  ch S .all Up Q h aj:=by
 have ok:=am.ok;have hl:=ok.hl;have ag:=am.len;have jQ:I (aE g)<=I g:=sF g (I g);have iU:bt g<=4000000:=by unfold bt;omega
 have xK:I (dG F g)<=bt g:=by rw[dG,cY];exact Kx (bz g) (bt g) _
 obtain⟨g0,aay⟩:∃u,m=.hsl 5824064064 u 5 0 (I (dG F g)):=by
  rcases gf with⟨e,_⟩|⟨_,u,e,hb⟩
  .have h1:I (dG F g)=0:=by simpa using congrArg List.length e
   rw[Su,am.nw]at h1;omega
  cases e;exact⟨u,by rw[cY]⟩
 have uw:=h4;rw[aay]at uw;simp only[go_sem,Up,uw];refine dy (λk v A=>v 6=h 6/\v 78=.one m/\v 79=aH (I (dG F g))/\v 80=aH k/\A 5824257088=(1,some (.var (Qy F g pc m)))/\A 5824256448=(1,some (.arr 3 1 (a_ (se ((dG F g).take k) 0 (List.replicate (2*I g) 0)))))/\A 5824256960=(1,some (.arr 3 1 (a_ (gy g F))))/\
   cg 5824896448 lg 7 (di (aQ g)) (.one pc) A/\cg 5824064064 sq 5 (kz (dG F g)) (.one m) A) 0 (I (dG F g)) (cG _) ?_ ?_
 .simp only[go_sem,bB,B,E,se,aay];exact⟨rfl,gp,by first|exact gf|(rw[<-aay];exact gf)⟩
 rintro k v A hk ⟨Y,Z,x,H,bB,B,E,gp,gf⟩
 rw[h6]at Y;by_cases aw:k<I (dG F g)
 .have aM:((k:Int)<(I (dG F g):Int)):=J;obtain⟨f,hf⟩:=aT aw;have Gb:=OI hf;have xP:=bR hf;have xJ:=Kv ok xP;have ad:=ag9 xP;have w1:=cN (n:=k) J;have iw:se ((dG F g).take (k+1)) 0 (List.replicate (2*I g) 0)=qQ (se ((dG F g).take k) 0 (List.replicate (2*I g) 0)) f.bQ k:=by
   rw[jT,hf];show se (_++[f]) 0 _=_;rw[asl,gX,vm J,lq]
  have T:I (se ((dG F g).take k) 0 (List.replicate (2*I g) 0))=2*I g:=by rw[VW,TH]
  generalize se ((dG F g).take k) 0 (List.replicate (2*I g) 0)=L at B iw T;obtain⟨u,yG,bf⟩:∃u,m=.hsl 5824064064 u 5 0 (I (kz (dG F g)))/\A 5824064064=(u,some (.arr sq 5 (kz (dG F g)))):=by
   rcases gf with⟨e,_⟩|⟨_,u,e,hb⟩
   .have:I (dG F g)=0:=by simpa using congrArg List.length e
    omega
   cases e;exact⟨u,rfl,hb⟩
  rw[cY]at yG;have y:=Z;rw[yG]at y;simp only[go_sem,Vb,Y,y,x,H,bB,B,E,bf,Gb,dt.ps,aw,aM];refine dy (λj D z=>D 6=.one (.bm 5824257088 1 0)/\D 11=aH k/\D 78=.one m/\D 79=aH (I (dG F g))/\D 80=aH k/\D 86=.one (.p (.sl (a_ f.bQ)))/\D 87=aH (I f.bQ)/\D 88=aH j/\
   z 5824257088=(1,some (.var (Qy F g pc m)))/\z 5824256448=(1,some (.arr 3 1 (a_ (qQ L (f.bQ.take j) k))))/\z 5824256960=(1,some (.arr 3 1 (a_ (gy g F))))/\cg 5824896448 lg 7 (di (aQ g)) (.one pc) z/\cg 5824064064 sq 5 (kz (dG F g)) (.one m) z) 0 (I f.bQ) (cG _) ?_ ?_
  .simp only[go_sem,Y,yG,y,x,H,bB,B,E,qQ,IV];refine⟨rfl,gp.of_eq (bK U),?_⟩;first|exact gf.of_eq (bK U)|(rw[<-yG];exact gf.of_eq (bK U))
  rintro j D z hj ⟨p6,QU,M,O,ac,X,N,ab,cB,cL,cC,cp,bU⟩
  by_cases CT:j<I f.bQ
  .have TO:((j:Int)<(I f.bQ:Int)):=J;obtain⟨d,hd⟩:=aT CT;have mL:=jG hd;have R:=ad d (bR hd);have w2:=cN (n:=j) J;have ir:(qQ L (f.bQ.take j) k).set d k=qQ L (f.bQ.take (j+1)) k:=by rw[jT,hd,apn];rfl
   have iO:=KI (qQ L (f.bQ.take j) k) d k;rw[ir]at iO;obtain⟨v0,JY⟩:=aT (L:=qQ L (f.bQ.take j) k) (k:=d) (by rw[Nt,T];exact R);have hv:=jG JY;simp only[go_sem,aa9,p6,QU,M,O,ac,X,N,ab,cB,cL,cC,CT,TO,mL,R,hv,iO,w2];exact⟨cp.of_eq (bK U),bU.of_eq (bK U)⟩
  have:j=I f.bQ:=J;subst this;rw[lA,<-iw]at cL;simp only[go_sem,aa9,ahu,p6,QU,M,O,ac,X,N,ab,cB,cL,cC,eR,w1,aw,h6];exact⟨cp,bU⟩
 have:k=I (dG F g):=J;subst this;rw[lA]at B;simp only[go_sem,Vb,Y,Z,x,H,eR];exact hq _ _ (by simp only[go_sem,Y,h6]) bB B E gp gf
def aDm(ap:cE F g):aK S 91 [c_ F g] (uD (kh F g) (.int .i64 0)):=by
 have ok:=ap.ok;have hl:=ok.hl;have am:=ap.len;have vP:=ap.fing;have pf:=auq ap;have ag:=acs F g hl;have ab:=ahr F g hl;have lo:S.lone 5824064064=false:=ah;have m2:=rB (a:=I g) J;have wF:=cN (n:=F) J;have r1:2*I g*8<=140737488355328:=J;have r2:(F+1)*8<=140737488355328:=J;have e1:List.replicate (2*I g) [PV.int .i64 0]=a_ (List.replicate (2*I g) 0):=aP;have e2:List.replicate (F+1) [PV.int .i64 0]=a_ (tH g F 0):=by rw[WA];simp
 refine bj abq ?_;simp only[go_sem,SD,V7];refine adL pf lo λR lh yG fX=>?_;have Oh:=fX 5824000000 U;simp only[go_sem]at Oh;simp only[go_sem,Oh,m2,wF,r1,r2,ac7,alu,dp ag,dp ab,e1,e2];refine⟨aA,?_⟩;have hz:∀j,j≠5824064064->j≠5824000000->lh j=(0,none):=λj a b=>(fX j a).trans (bK b);have B:=hz 5824256448 U U;have z2:=hz 5824256960 U U;have z3:=hz 5824257088 U U;refine dy (λk h aj=>h 4=.one R/\h 6=.one (.bm 5824257088 1 0)/\h 7=gE (bN g k)/\h 42=.one (.p (eg g))/\h 43=aH (I g)/\h 44=aH k/\
   aj 5824256448=(1,some (.arr 3 1 (a_ (List.replicate (2*I g) 0))))/\aj 5824256960=(1,some (.arr 3 1 (a_ (tH g F k))))/\
   ∃pc,aj 5824257088=(1,some (.var (Qy F g pc R)))/\cg 5824896448 lg 7 (di ((aQ g).take k)) (.one pc) aj/\cg 5824064064 sq 5 (kz (dG F g)) (.one R) aj) 0 (I g) (cG _) ?_ ?_
 .simp only[go_sem,B,z2,z3];refine⟨rfl,rfl,.p .nils,rfl,.inl ⟨rfl,rfl⟩,yG.of_eq ?_⟩;simp only[go_sem]
 rintro k h aj hk ⟨A,H,Q,T,X,N,E,z,pc,bB,gp,gf⟩
 by_cases O:k<I g
 .obtain⟨l,f⟩:=aT O;have hi:=gb f;have aM:((k:Int)<(I g:Int)):=J;have w1:=cN (n:=k) J;have Y:=oJ f;cases hp:(l.kind==1)with
  |false=>
   have m:l.aI=false:=hp;have mL:km g k=false:=by simp[km,f,m]
   rw[mL]at Y;have hd:=Ks f m;have Bf:=ald (F:=F) f m;have Z:di ((aQ g).take (k+1))=di ((aQ g).take k)++[(aR.mk l false).ps]:=by rw[jT,Y];simp
   simp only[go_sem,MS,A,H,Q,T,X,N,hi,dD,aa.ps,aM,O,hp,bB,E,z];refine qe (y:=5824896448) (id:=5824896448) (bytes:=56) (B:=[(aR.mk l false).ps]) (rd:=[5824896384]) (gp.of_eq (by simp only[bK,cD,Nat.reduceEqDiff,if_false])) (by simp[js,cD,aR.ps]) (.inl rfl) (by simp only[cY,dW,fU,gX,cW];omega) λc bG r u hc L hr=>?_;have v:∀i,i≠5824896448->i≠5824896384->i≠5824576128->i≠5824512128->i≠5824256960->bG i=aj i:=λi a b c d e=>(L i a a).trans (by simp only[cD,aC b,aC c,aC d,aC e])
   have M:=(L 5824256960 U U);simp only[cD,Nat.reduceEqDiff,if_false,if_true,z]at M;have Oj:=(v 5824257088 U U U U U).trans bB;have x:=(v 5824256448 U U U U U).trans E;simp only[go_sem,A,H,Q,T,X,N,Oj,x,M,w1,hd,Bf,O];refine⟨?_,?_⟩
   .rcases hr with⟨rfl,rfl⟩|⟨rfl,rfl⟩|⟨rfl,rfl⟩<;>kernel_rfl
   refine⟨c,rfl,?_,?_⟩
   .rw[Z];exact hc.of_eq (bK U)
   exact gf.of_eq ((bK U).trans (v _ U U U U U))
  |true=>
   have m:l.aI:=hp;have mL:km g k=bN g k:=by simp[km,f,m]
   rw[mL]at Y;have hd:=FK f m;have Z:di ((aQ g).take (k+1))=di ((aQ g).take k)++[(aR.mk l (bN g k)).ps]:=by rw[jT,Y];simp
   have CM:=ok.ax.fG l (bR f) m;obtain⟨G,hG⟩:=o_ CM.g0;have Cw:G<=F:=by have:=CM.g1;omega
   have Bb:G<F+1:=J;have pM:=jG (aeN (L:=g) (k:=k) Cw);have cS:bU (g.take k) G<=k:=BX _ _ _;have w2:=cN (n:=bU (g.take k) G) J;have D:=KI (tH g F k) G (bU (g.take k) G+1);rw[<-aj4 f m hG]at D;simp only[go_sem,MS,A,H,Q,T,X,N,hi,dD,aa.ps,aM,O,hp,hG,bB,E,z,pM,Bb,w2,D];refine⟨aA,?_⟩;refine qe (y:=5824896448) (id:=5824896448) (bytes:=56) (B:=[(aR.mk l (bN g k)).ps]) (rd:=[5824896384]) (gp.of_eq (by simp only[bK,cD,Nat.reduceEqDiff,if_false])) (by simp[js,cD,aR.ps,hG]) (.inl rfl) (by simp only[cY,dW,fU,gX,cW];omega) λc bG r u hc L hr=>?_
   have v:∀i,i≠5824896448->i≠5824896384->i≠5824576128->i≠5824512128->i≠5824256960->bG i=aj i:=λi a b c d e=>(L i a a).trans (by simp only[cD,aC b,aC c,aC d,aC e]);have M:=(L 5824256960 U U);simp only[cD,Nat.reduceEqDiff,if_false,if_true,z]at M;have Oj:=(v 5824257088 U U U U U).trans bB;have x:=(v 5824256448 U U U U U).trans E;simp only[go_sem,A,H,Q,T,X,N,Oj,x,M,w1,hd,O];refine⟨?_,?_⟩
   .rcases hr with⟨rfl,rfl⟩|⟨rfl,rfl⟩|⟨rfl,rfl⟩<;>kernel_rfl
   refine⟨c,rfl,?_,?_⟩
   .rw[Z];exact hc.of_eq (bK U)
   exact gf.of_eq ((bK U).trans (v _ U U U U U))
 have:k=I g:=J;subst this;rw[fx (by rw[cW];exact c3 _)]at gp;rw[abp]at z;simp only[go_sem,MS,A,H,Q,T,X,N,eR];refine aya ap (pc:=pc) (m:=R) ?_ ?_ bB E z gp gf ?_
 .simp only[go_sem,A]
 .simp only[go_sem,H]
 intro aL aq q6 cB cL cC ad ac;simp only[go_sem,H]at q6;obtain⟨rp,np,_⟩:=ad.acE (n:=4);obtain⟨CP,nf,_⟩:=ac.acE (n:=4);have y:List.take (2*I g) (a_ (kO F g))=a_ (kO F g):=fx (by simp[kO,VW]);have t2:List.take (F+1) (a_ (gy g F))=a_ (gy g F):=fx (by simp[gy]);have n1:2*I g<=I (kO F g):=by simp[kO,VW]
 have n2:F+1<=I (gy g F):=by simp[gy]
 simp only[go_sem,Tt,q6];simp only[go_sem,iR,n_,vE,lX,kS,ij,cB,cL,cC,np,nf,y,t2,n1,n2];rfl
def kA{x:Int}(m: -9223372036854775808<=x)(j:x<=9223372036854775807):IntKind.i64.wrap x=x:=by
 have e:(2 ^ IntKind.i64.bits:Int)=18446744073709551616:=U;have E:(2 ^ (IntKind.i64.bits-1):Int)=9223372036854775808:=U;unfold IntKind.wrap;simp only[e,E];by_cases h:0<=x
 .have f:x%18446744073709551616=x:=J;rw[f];have H:¬x≥9223372036854775808:=J;simp[H]
 have f:x%18446744073709551616=x+18446744073709551616:=J;rw[f];have H:x+18446744073709551616≥9223372036854775808:=J;have g:IntKind.i64.signed:=rfl;simp[H,g]
def M4(l:cX):ao 7 (di l):=by simp[ao,aR.ps]
def jw(l:cX):((di l).all λe=>e.all PV.scalar):=by simp[aR.ps,PV.scalar]
def GM(l:cX):∀e∈di l,I e=7/\ ∀v∈e,v.norm=v:=λe H=>by obtain⟨a,_,rfl⟩:=dY.1 H;exact⟨rfl,λv h=>by simp[aR.ps]at h;rcases h with rfl|rfl|rfl|rfl|rfl|rfl|rfl<;>rfl⟩
abbrev fF(l x:cX)(k:Nat):cX:=l.take (k+1)++x++l.drop (k+1)
def Rs(a b:cX):di (a++b)=di a++di b:=aP
def lW(l x:cX)(k:Nat)(z:k<I l)(hl:I l<=1000000)(y:I x<=1000000):
  aK S 178 [.one (.p (.sl (di l))),aH k,.one (.p (.sl (di x)))] (.one (cF lg 7 (di (fF l x k)))):=by
 have f:=cN (n:=k) J;have g:k+1<=I l:=J;have ae:=M4 l;have j:List.take (k+1) (di l)=di (l.take (k+1)):=by simp[uJ]
 have H:List.take (I l-(k+1)) (List.drop (k+1) (di l))=di (l.drop (k+1)):=by rw[fx aP];simp[u_]
 refine bj aAc ?_;simp only[go_sem,anY,f,g,ae,j];refine th (id:=11392064256) (y:=11392064256) (bytes:=56) cg.nil (B:=di (l.take (k+1))) (rd:=[]) rfl (.inr (M4 _)) (by simp;omega) λF B g1 E=>?_;simp only[go_sem,f,g,ae];refine th (id:=11392064256) (y:=11392128128) (bytes:=56) g1 (B:=di x) (rd:=[]) rfl (.inr (M4 _)) (by simp;omega) λu A m D=>?_;simp only[go_sem,f,g,ae,H];refine th (id:=11392128128) (y:=11392192320) (bytes:=56) m (B:=di (l.drop (k+1))) (rd:=[]) rfl (.inr (M4 _)) (by simp;omega) λc9 M h v=>?_;simp only[go_sem];rw[iZ,<-Rs,<-Rs]at h;exact wX h
def aAf(p:aR)(t:cX)(hl:I (p::t)<=1000000):aK S 177 [.one (.p (.sl (di (p::t))))] (.one (cF lg 7 (di (p::t)))):=by
 have ae:=M4 (p::t);have h:(0+I (di (p::t)))*56<=pV:=by unfold pV;rw[cY];omega
 refine bj auW ?_;obtain⟨E,j,hq⟩:∃E j,di (p::t)=E::j:=⟨_,_,rfl⟩;rw[hq]at ae h |-;have A:E::j≠[]:=aP;have x:cF lg 7 (E::j)=.own lg 7 (E::j):=aC A;rw[x];unfold pV at h;simp only[lq,dW]at h;simp only[ao,vg]at ae;simp only[go_sem,af9,af,ao];simp only[ae,h,not_true_eq_false,if_true,if_false];simp only[go_sem,af,ao];exact Hz vx rfl
def kX(g A b:Int)(p:aR):aR:=if(p.l.kind==1)&&((p.l.gate==g)&&decide (A<p.l.ay))then{p with l:={p.l with ay:=p.l.ay+b}}else p
abbrev fQ(l:cX)(g ab b:Int):cX:=l.map (kX g ab b)
def ak9(id:Nat)(j:q_)(c:dI)(aj:aN)(v:V)(A:aN):Prop:=v=.tup []/\cg id lg 7 j (.one c) A/\dE (· =id) aj A
def aBU{al:cT}{aj:aN}{id:Nat}{l:cX}{c:dI}{g A b:Int}(o:l=[]\/al.ok id)(hl:I l<=1000000)(hb: -100<=b/\b<=100)(hr:∀p∈l,-1000000<=p.l.ay/\p.l.ay<=1000000)(ac:cg id lg 7 (di l) (.one c) aj):
  ∃v f,lK S 175 [.one c,aH g,aH A,aH b] al aj v f/\ak9 id (di (fQ l g A b)) c aj v f:=by
 refine qK apy (jc rfl) ?_;rcases ac with⟨u,H⟩|⟨aO,Y,H,hC⟩
 .cases H;have tK:l=[]:=by simpa using u
  subst tK;have hz:¬(((0:Nat):Int)<((0:Nat):Int)):=J;simp only[go_sem,aaB,af,ao];refine dy (λk h f=>k=0/\h 10=aH ((0:Nat):Int)/\h 11=aH ((0:Nat):Int)/\f=aj) 0 0 (c3 _) ?_ ?_
  .simp only[go_sem];exact rfl
  rintro k h f _ ⟨rfl,z,F,rfl⟩
  simp only[go_sem,IJ,z,F,hz,af,ao];exact⟨rfl,.inl ⟨rfl,rfl⟩,λ_ _=>rfl⟩
 cases H;have o:=o.resolve_left (by simpa using aO);simp only[go_sem,aaB,af,ao];refine dy (λk h f=>h 0=.one (.hsl id Y 7 0 (I l))/\h 1=aH g/\h 2=aH A/\h 3=aH b/\h 10=aH (I l)/\h 11=aH k/\f id=(Y,some (.arr lg 7 (di ((fQ (l.take k) g A b)++l.drop k))))/\dE (· =id) aj f) 0 (I l) (cG _) ?_ ?_
 .simp only[go_sem,hC];refine⟨?_,?_⟩
  .simp[fQ]
  exact dE.refl _ _
 rintro k h f hk ⟨L,u,H,Q,z,F,y,N⟩
 by_cases M:k<I l
 .have T:((k:Int)<(I l:Int)):=J;obtain⟨p,hp⟩:=aT M;have R:=cN (n:=k) J;obtain⟨r1,r2⟩:=hr p (bR hp);have wr:=kA (x:=p.l.ay+b) J J;have Z:l.drop k=p::l.drop (k+1):=by
   obtain⟨hh,rfl⟩:=cn.1 hp;exact Kz hh
  have O:I ((fQ (l.take k) g A b)++l.drop k)=I l:=by simp[fQ];omega
  have oU:((fQ (l.take k) g A b)++l.drop k)[k]?=some p:=by
   rw[wY (by simp[fQ];omega)];have:k-I (fQ (l.take k) g A b)=0:=by simp[fQ];omega
   rw[this,Z];rfl
  have ir:((fQ (l.take k) g A b)++l.drop k).set k (kX g A b p)=(fQ (l.take (k+1)) g A b)++l.drop (k+1):=by
   have e1:I (fQ (l.take k) g A b)=k:=by simp[fQ];omega
   rw[IZ _ _ J,e1,zB,Z,Vx,jT,hp];simp[fQ]
  have E:=kI oU;have D:di (((fQ (l.take k) g A b)++l.drop k).set k (kX g A b p))=(di ((fQ (l.take k) g A b)++l.drop k)).set k (kX g A b p).ps:=by simp[di,wZ]
  rw[ir]at D;have X:kX g A b p=p->di ((fQ (l.take k) g A b)++l.drop k)=di ((fQ (l.take (k+1)) g A b)++l.drop (k+1)):=λe=>by rw[D,e];obtain⟨hh,he⟩:=cn.1 E;rw[<-he,Ve]
  generalize(fQ (l.take k) g A b)++l.drop k=m at y oU E D X O;have im:k<I (di m):=by rw[cY];omega
  cases j:(p.l.kind==1)with
  |false=>have e:=X (by unfold kX;rw[j];rfl);simp only[go_sem,IJ,L,u,H,Q,z,F,y,E,aR.ps,M,T,j,R,o,af,ao];exact⟨by rw[e],N⟩
  |true=>
   cases B:(p.l.gate==g)with
   |false=>have e:=X (by unfold kX;rw[j,B];rfl);simp only[go_sem,IJ,L,u,H,Q,z,F,y,E,aR.ps,M,T,j,B,R,o,af,ao];exact⟨by rw[e],N⟩
   |true=>
    by_cases c9:A<p.l.ay
    .have e:(kX g A b p).ps=[.int .i64 p.l.kind,.int .i64 p.l.gate,.int .i64 (p.l.ay+b),.int .i64 p.l.id,.int .i64 p.l.sign,.bool p.l.over,.bool p.d]:=by unfold kX;rw[j,B,pA c9];rfl
     rw[e]at D;simp only[go_sem,IJ,L,u,H,Q,z,F,y,E,aR.ps,M,T,j,B,c9,R,wr,o,im,af,ao];refine⟨?_,?_⟩
     .first|rw[D]|(rw[D];rfl)
     exact N.dx rfl _
    have e:=X (by unfold kX;rw[j,B,nr c9];rfl);simp only[go_sem,IJ,L,u,H,Q,z,F,y,E,aR.ps,M,T,j,B,c9,R,o,af,ao];exact⟨by rw[e],N⟩
 have:k=I l:=J;subst this;simp only[go_sem,IJ,L,u,H,Q,z,F,eR,af,ao];refine⟨rfl,?_,N⟩;rw[lA,K7,rT]at y;exact .inr ⟨by simpa using aO,Y,by simp[fQ],y⟩
def FW(p:aR):Bool:=(p.l.kind==1)&&p.d
def Pt(l:cX)(i:Nat):Bool:=match l[i]? with|some p=>FW p|none=>false
def acy{l:cX}{i:Nat}{p:aR}(h:l[i]?=some p):Pt l i=FW p:=by simp[Pt,h]
def uo(l:cX):eC:=(List.range (I l)).find? (Pt l)
def aqT(p:aR):aK S 156 [.agg (p.ps.map .p)] (cO (FW p)):=by
 refine bj aBJ ?_;unfold FW;cases h:(p.l.kind==1)with
 |true=>simp only[go_sem,aaT,aR.ps,h,af,ao]
 |false=>simp only[go_sem,aaT,aR.ps,h,af,ao]
def arb(l:cX)(hl:I l<=1000000):aK S 155 [.one (.p (.sl (di l))),.one (.p (.fn 156 [] []))] (ja (match uo l with|some k=>(k:Int)|none=> -1)):=by
 refine bj asb ?_;simp only[go_sem,ajK,af,ao];refine dy (λk h aj=>h 0=.one (.p (.sl (di l)))/\h 1=.one (.p (.fn 156 [] []))/\h 7=aH (I l)/\h 8=aH k/\ ∀j,j<k->Pt l j=false) 0 (I l) (cG _) ?_ ?_
 .simp only[go_sem];exact⟨rfl,λj x=>absurd x (pG j)⟩
 rintro k h aj L ⟨m,y,z,g,u⟩
 by_cases A:k<I l
 .have D:((k:Int)<(I l:Int)):=J;obtain⟨p,hp⟩:=aT A;have E:=kI hp;have F:=cN (n:=k) J;have f:=aqT p;have v:=acy hp;cases B:FW p with
  |true=>rw[B]at f v;have H:uo l=some k:=AR A u v;simp only[aR.ps,eJ,lr]at f;simp only[go_sem,Rk,m,y,z,g,A,D,E,aR.ps,aec,au f,H,af,ao]
  |false=>
   rw[B]at f v;simp only[aR.ps,eJ,lr]at f;simp only[go_sem,Rk,m,y,z,g,A,D,E,aR.ps,aec,au f,F,af,ao];intro j x;rcases mQ.1 x with M|rfl
   .exact u j M
   exact v
 have:k=I l:=J;subst this;have H:uo l=none:=Gx u;simp only[go_sem,Rk,ae1,m,y,z,g,eR,H,af,ao]
abbrev eo:Nat:=32
def s5(l:cX)(A k:Nat):ai:=(List.range k).map λi=>(l.getD ((A+i)%I l) ⟨mw,false⟩).l
def aAa{l:cX}{f k:Nat}{p:aR}(h:l[(f+k)%I l]?=some p):s5 l f (k+1)=s5 l f k++[p.l]:=by simp[s5,rN,dC,h]
def oF(l:cX):ai:=s5 l ((uo l).getD 0) (I l)
abbrev bP(o:ai):q_:=o.map aa.ps
def Fb{c:dI}{x:PV}{aj:aN}(h:cg D y B j (.one c) aj):iR aj (.agg [.p x,c])=some (.agg [.p x,cF y B j]):=by obtain⟨m,o,g,H,f⟩:=h.ij;cases g;rcases f with rfl|rfl<;>simp[iR,n_,lX,kS,H,(show Go.Abs.ij aj (.p x)=some (.p x,[],[])from rfl),mg,pK,oh]
def am7(F:Nat)(l:cX)(hl:I l<=1000000)(x1 x2 x3 x4 x5 x6:PV):aK S 122 [.one (.p (.box [.int .i64 F,x1,x2,x3,x4,x5,x6])),.one (.p (.sl (di l)))] (.agg [.p (.int .i64 F),cF eo 6 (bP (oF l))]):=by
 have g:=arb l hl;have Q:∃f,(uo l).getD 0=f/\(l≠[]->f<I l):=by
  refine⟨_,rfl,λD=>?_⟩;cases ab:uo l with
  |none=>exact jH.2 D
  |some k=>exact gN.1 (Cg ab)
 obtain⟨f,H,X⟩:=Q;have u7:((uo l=none/\f=0)\/uo l=some f):=by
  cases ab:uo l with
  |none=>rw[ab]at H;exact .inl ⟨rfl,H.symm⟩
  |some k=>rw[ab]at H;exact .inr (congrArg some H)
 unfold oF;rw[H];have m:∀(h:ct) (aj:aN),h 1=.one (.p (.sl (di l)))->h 4=.one (.bm 7808000000 1 0)->h 5=.one (.bm 7808064320 1 0)->h 6=aH f->h 17=aH (I l)->h 18=aH ((0:Nat):Int)->aj 7808000000=(1,some (.var [.p (.int .i64 0),.p .nils]))->aj 7808064320=(1,some (.var [.p (.int .i64 F),.p .nils]))->
   ch S .all (.loop Sc) (oR 0 (v_ S .all adf (sO .all [(4,some (some 2))] λv aj=>iR aj v=some (.agg [.p (.int .i64 F),cF eo 6 (bP (s5 l f (I l)))])))) h aj:=by
  intro h aj e1 e4 e5 e6 LF LG b0 B;refine dy (λk h aj=>h 1=.one (.p (.sl (di l)))/\h 4=.one (.bm 7808000000 1 0)/\h 5=.one (.bm 7808064320 1 0)/\h 6=aH f/\h 17=aH (I l)/\h 18=aH k/\aj 7808000000=(1,some (.var [.p (.int .i64 0),.p .nils]))/\ ∃c,aj 7808064320=(1,some (.var [.p (.int .i64 F),c]))/\cg 7808384832 eo 6 (bP (s5 l f k)) (.one c) aj) 0 (I l) (cG _) ⟨e1,e4,e5,e6,LF,LG,b0,.p .nils,B,.inl ⟨rfl,rfl⟩⟩ ?_;rintro k h aj hk ⟨z,y,A,L,N,x,b0,c,B,Y⟩
  by_cases T:k<I l
  .have aM:((k:Int)<(I l:Int)):=J;have D:l≠[]:=jH.1 J;have X:=X D;have w1:=cN (n:=k) J;have w2:=vc (a:=f) (b:=k) J;have e2:=tB (f+k) (I l);have Z:=fk (f+k) (show 0<I l by omega);obtain⟨p,hp⟩:=aT Z;have eV:=kI hp;have hz:¬((I l:Int)=0):=J;have hr:=aAa hp;have O:I (s5 l f k)=k:=by simp[s5]
   simp only[go_sem,Sc,z,y,A,L,N,x,B,b0,T,aM,w2,e2,Z,hz,eV,aR.ps];refine qe (y:=7808384832) (id:=7808384832) (bytes:=48) (B:=[p.l.ps]) (rd:=[7808384768]) (Y.of_eq (bK U)) (by simp[js,cD,aa.ps]) (.inl rfl) (by simp only[cY,O,dW,fU];omega) λc' bG r u hc R M=>?_;have E:=(R 7808064320 U U).trans ((bK U).trans B);have j:=(R 7808000000 U U).trans ((bK U).trans b0);simp only[go_sem,z,y,A,L,N,x,E,j,T,w1];refine⟨?_,c',rfl,?_⟩
   .rcases M with⟨rfl,rfl⟩|⟨rfl,rfl⟩|⟨rfl,rfl⟩<;>kernel_rfl
   rw[hr,bP,kP];exact hc.of_eq (bK U)
  have:k=I l:=J;subst this;simp only[go_sem,Sc,adf,z,y,A,L,N,x,B,b0,eR];exact Fb (Y.of_eq (bK U))
 refine bj axe ?_;rcases u7 with⟨hn,rfl⟩|ae
 .rw[hn]at g;have PS:¬((0:Int)< -1):=U;simp only[go_sem,aaC,agq,dJ g];exact m _ _ (by simp only[go_sem]) (by simp only[go_sem]) (by simp only[go_sem]) (by simp only[go_sem];rfl) (by simp only[go_sem]) (by simp only[go_sem];rfl) (by simp only[go_sem]) (by simp only[go_sem])
 rw[ae]at g;simp only[go_sem,aaC,agq,dJ g];exact m _ _ (by simp only[go_sem]) (by simp only[go_sem]) (by simp only[go_sem]) (by simp only[go_sem];split<;>(first|rfl|(congr 1;simp;omega))) (by simp only[go_sem]) (by simp only[go_sem];rfl) (by simp only[go_sem]) (by simp only[go_sem])
def akd:aK S 120 [] (.agg [.p .yZ,.p (.fn 146 [] []),.p (.fn 147 [] []),.p (.fn 148 [] []),.p (.fn 149 [] []),.p (.fn 150 [] []),.p (.fn 151 [] []),.p (.fn 152 [] []),.p (.fn 153 [] []),.p (.fn 154 [] []),.p (.fn 154 [] [])]):=by refine bj ar0 ?_;simp only[go_sem,adK,af,ao];rfl
def iK(k:Int):Int×Int:=if k=2 then(2,0)else if k=5 then(2,1)else if k=7 then(4,2)else(0,0)
def ai5(k:Int):aK S 121 [aH k] (.tup [.one (.p (.int .i64 (iK k).1)),.one (.p (.int .i64 (iK k).2))]):=by
 refine bj av9 ?_;unfold iK;by_cases f:k=2
 .subst f;simp only[go_sem,PZ,af,ao];rfl
 by_cases H:k=5
 .subst H;simp only[go_sem,PZ,af,ao];rfl
 by_cases h:k=7
 .subst h;simp only[go_sem,PZ,af,ao];rfl
 rw[aC f,aC H,aC h];have E:(k==2)=false:=by simpa using f
 have j:(k==5)=false:=by simpa using H
 have g:(k==7)=false:=by simpa using h
 simp only[go_sem,PZ,E,j,g,af,ao];rfl
def Me(F:Nat)(x:Nat)(sg:Int)(ov:Bool)(g X h x4 f:PV)(k:Nat)(j:x<=1000000)(H:k<=10):aK S 182 [.one (.p (.box [.int .i64 F,g,X,h,x4,.int .i64 x,f])),aH k,aH sg,gE ov] (.agg [.p (.int .i64 2),.p (.int .i64 0),.p (.int .i64 0),.p (.int .i64 ((x+k:Nat):Int)),.p (.int .i64 sg),.p (.bool ov),.p (.bool false)]):=by have w:=vc (a:=x) (b:=k) J;refine bj aC2 ?_;simp only[go_sem,afV,w,af,ao];rfl
def Ap(o:rV)(p:Nat×Nat)(i:Nat):Bool:=o[i]?==some p
def arz(o:rV)(p:Nat×Nat)(hl:I o<=1000000):aK S 198 [.one (.p (.sl (eO o))),.agg [.p (.int .i64 p.1),.p (.int .i64 p.2)]] (ja (match (List.range (I o)).find? (Ap o p)with|some k=>(k:Int)|none=> -1)):=by
 refine bj azL ?_;simp only[go_sem,am0,af,ao];refine dy (λk h aj=>h 0=.one (.p (.sl (eO o)))/\h 3=.one (.bm 12672000000 1 0)/\aj 12672000000=(1,some (.var [.p (.int .i64 p.1),.p (.int .i64 p.2)]))/\h 7=aH (I o)/\h 8=aH k/\ ∀j,j<k->Ap o p j=false) 0 (I o) (cG _) ?_ ?_
 .simp only[go_sem];exact⟨rfl,λj D=>absurd D (pG j)⟩
 rintro k h aj X ⟨H,y,b0,f,g,z⟩
 by_cases A:k<I o
 .have v:((k:Int)<(I o:Int)):=J;obtain⟨q,hp⟩:=aT A;have E:=abk hp;have F:=cN (n:=k) J;have N:Ap o p k=decide (q=p):=by
   simp only[Ap,hp];by_cases T:q=p<;>simp[T]
  by_cases u:q=p
  .subst u;have x:=AR (p:=Ap o q) A z (by rw[N];simp);simp only[go_sem,MV,H,y,b0,f,g,A,v,E,x,tv,uq,af,ao];exact aA
  have m:Ap o p k=false:=by rw[N];exact nr u
  have R:((p.1:Int)==(q.1:Int))=false\/(((p.1:Int)==(q.1:Int))/\((p.2:Int)==(q.2:Int))=false):=by
   by_cases L:q.1=p.1
   .refine .inr ⟨by simp[L],?_⟩;have:q.2≠p.2:=λO=>u (Prod.ext L O);simp;omega
   left;simp;omega
  have M:∀j,j<k+1->Ap o p j=false:=λj D=>by
   rcases mQ.1 D with T|rfl
   .exact z j T
   exact m
  rcases R with B|⟨B,Q⟩
  .simp only[go_sem,MV,H,y,b0,f,g,A,v,E,F,tv,uq,B,af,ao];exact⟨aA,M⟩
  simp only[go_sem,MV,H,y,b0,f,g,A,v,E,F,tv,uq,B,Q,af,ao];exact⟨aA,M⟩
 have:k=I o:=J;subst this;have x:=Gx (p:=Ap o p) z;simp only[go_sem,MV,alg,H,f,g,eR,x,af,ao]
def aqn(o:rV)(p:Nat×Nat)(hl:I o<=1000000):aK S 176 [.one (.p (.sl (eO o))),.agg [.p (.int .i64 p.1),.p (.int .i64 p.2)]] (cO (decide (p∈o))):=by
 have f:=arz o p hl;refine bj aBf ?_;by_cases H:p∈o
 .obtain⟨k,g⟩:=j9 H;have F:=(cn.1 g).1;cases h:(List.range (I o)).find? (Ap o p)with
  |none=>have:=G9.1 h k (gN.2 F);simp[Ap,g]at this
  |some j=>rw[h]at f;have L:(0:Int)<=(j:Int):=J;simp only[go_sem,adz,agU,dJ f,L,H,af,ao]
 cases h:(List.range (I o)).find? (Ap o p)with
 |some j=>have m:=HA h;simp only[Ap,dk]at m;exact absurd (bR m) H
 |none=>rw[h]at f;have L:¬(0:Int)<= -1:=U;simp only[go_sem,adz,agU,dJ f,L,H,af,ao]
def OT{l:cX}(A:l≠[])(hl:I l<=1000000):aK S 177 [.one (.p (.sl (di l)))] (.one (cF lg 7 (di l))):=by
 cases l with
 |nil=>exact absurd rfl A
 |cons p t=>exact aAf p t hl
section
variable {Q:hs} {h:ct} {aj:aN} {os:fI} {d:eC}
def KD{id:Nat}{l:cX}{c:dI}{g f b:Int}(hl:I l<=1000000)(u: -100<=b/\b<=100)(n:∀p∈l,-1000000<=p.l.ay/\p.l.ay<=1000000)(H:cg id lg 7 (di l) (.one c) aj)
  (z:∀A,cg id lg 7 (di (fQ l g f b)) (.one c) A->(∀i,i≠id->A i=aj i)->jI S .all os Q (dP h d (.tup [])) A):kn S .all (.sc 175 [.one c,aH g,aH f,aH b]) d os Q h aj:=by
 have j:l=[]\/(iB (S.ctx .all) 175 [.one c,aH g,aH f,aH b] aj).ok id:=by
  rcases UL H with⟨x,_⟩|x
  .exact .inl (by simpa using x)
  exact .inr (tu (by simp[x]))
 refine sG (P:=ak9 id (di (fQ l g f b)) c aj) t_ (aBU j hl u n H) ?_;rintro v A ⟨rfl,y,m⟩
 exact z A y m
end
def ayY(fs:D4):∀(j:Nat) (L:aF),∀v∈se fs j L,v∈L\/v<j+I fs:=by
 have m:∀(D:aF) (L:aF) (x:Nat),∀v∈qQ L D x,v∈L\/v=x:=by
  intro D
  induction D with
  |nil=>intro L x v h;exact .inl h
  |cons d D g=>
   intro L x v h;rcases g (L.set d x) x v h with h|h
   .rcases P8 h with h|h
    .exact .inl h
    exact .inr h
   exact .inr h
 induction fs with
 |nil=>intro j L v h;exact .inl h
 |cons f r g=>
  intro j L v h;rcases g (j+1) (qQ L f.bQ j) v h with h|h
  .rcases m _ _ _ v h with h|h
   .exact .inl h
   subst h;exact .inr aP
  exact .inr (by simp only[dW];omega)
def PR:dt:=⟨false,[],[],[],false⟩
def dF(F:Nat)(g:ai)(d:Nat):dt:=(dG F g).getD ((kO F g).getD d 0) PR
def N7(F:Nat)(g:ai):I (kO F g)=2*I g:=by simp[kO,VW]
def adJ(v:cE F g){d:Nat}(m:d<2*I g):∃j,(kO F g)[d]?=some j/\(dG F g)[j]?=some (dF F g d)/\j<I (dG F g):=by
 obtain⟨j,H⟩:=aT (L:=kO F g) (k:=d) (by rw[N7];exact m);have x:0<I (dG F g):=by rw[Su,v.nw];omega
 have u:j<I (dG F g):=by
  rcases ayY (dG F g) 0 _ j (bR H)with h|h
  .have:=QE h;omega
  omega
 refine⟨j,H,?_,u⟩;obtain⟨f,n⟩:=aT u;unfold dF;rw[dC (l:=kO F g),H,kZ,dC,n];rfl
def oT(b:Nat)(r:Int)(d:Bool):aR:=⟨⟨1,b,r,0,0,false⟩,d⟩
def zb(g:ai)(m b c:Nat)(f:dt)(h:Bool):cX:=fF (fQ (aQ g) b c 2) [oT b (if f.eF !=h then((c+2:Nat):Int)else((c+1:Nat):Int)) f.eF,oT b (if f.eF !=h then((c+1:Nat):Int)else((c+2:Nat):Int)) (!f.eF)] m
def wS(F:Nat)(g:ai)(m b c:Nat):Option cX:=
 if(b,c)∈(dF F g (2*m)).places then some (zb g m b c (dF F g (2*m)) false)
 else if(b,c)∈(dF F g (2*m+1)).places then some (zb g m b c (dF F g (2*m+1)) true)else none
def uN (o:Option cX):RV:=.tup [.one (cF lg 7 (di (o.getD []))),.one (.p (.bool o.isSome))]
def Hh(m:cE F g):∀p∈aQ g,-1000000<=p.l.ay/\p.l.ay<=1000000:=by
 intro p hp;obtain⟨i,H⟩:=j9 hp;have L:i<I g:=by rw[<-cW];exact(cn.1 H).1
 obtain⟨l,hl⟩:=aT L;rw[oJ hl]at H;cases H;rcases m.ok.kinds l (bR hl)with h|h
 .have j:=m.ok.ax.fG l (bR hl) h;have:=j.r0;have:=j.r1;have n:bU g l.gate.toNat<=I g:=o7 _ _;have:=m.len;simp only;omega
 have:=(Ou (f:=F) h).1 (m.bad l (bR hl));simp only[this.1.2];omega
def akX{F:Nat}{g:ai}(ag:cE F g){b c k:Nat}(ha:m<I g)(Jy:b<=F)(hc:c<=1000){l o:Bool}{sg:Int}(hk:k<2){aj:aN}
  (v:h 0=.one (.p (kh F g))) (u:h 3=.one (.bm 9408000000 1 0)) (h6:h 6=.one (.bm 9408064320 1 0)) (x:h 7=.one (.bm 9408128448 1 0)) (H:h 8=.one (.bm 9408192448 1 0)) (N:h 40=aH k)
  (X:aj 9408000000=(1,some (.var [.p (.int .i64 2),.p (.int .i64 m),.p (.int .i64 b),.p (.int .i64 c),.p (.bool l),.p (.bool o),.p (.int .i64 sg)]))) (b6:aj 9408064320=(1,some (.var [.p (.int .i64 b),.p (.int .i64 c)])))
  (b7:aj 9408128448=(1,some (.var ((oT b ((c+1:Nat):Int) true).ps.map .p)))) (b8:aj 9408192448=(1,some (.var ((oT b ((c+2:Nat):Int) false).ps.map .p))))
  (dM:(b,c)∉(dF F g (2*m+k)).places->∀A Y,A 0=h 0->A 3=h 3->A 6=h 6->A 7=h 7->A 8=h 8->A 40=aH ((k+1:Nat):Int)->(∀i,i≠9408577088->Y i=aj i)->ch S .all (.loop H9) (oR 0 Q) A Y)
  (Z:(b,c)∈(dF F g (2*m+k)).places->∀A Y s cc,A 4=.one cc->A 5=gE true->cg s lg 7 (di (zb g m b c (dF F g (2*m+k)) (k==1))) (.one cc) Y->Q .ret A Y):
  ch S .all (.loop H9) (oR 0 Q) h aj:=by
 have am:=ag.len;have En:=ag.fing;obtain⟨j,ad,pN,Aa⟩:=adJ ag (d:=2*m+k) J;have ac:=bR pN;have CR:=jG ad;have Gb:=OI pN;have aw:((k:Int)<2):=J;have bk:(dF F g (2*m+k)).places.length<=1000000:=by obtain⟨w,hw,he⟩:=dY.1 ac;obtain⟨_,Af,Qj⟩:=yh ag.ok w hw;have h1:=(Xe ag.ok Qj (I w) (c3 _)).2.1;rw[aab,he]at h1;have jQ:I (aE g)<=I g:=sF g (I g);have h2:I w*(2*F+2)<=1600*82:=Uv (by unfold bt at Af;omega) J;omega
 generalize ar:dF F g (2*m+k)=f at*;have pc:=aqn f.places (b,c) bk;have m2:=rB (a:=m) J;have m3:=vc (a:=2*m) (b:=k) J;have w1:=cN (n:=k) J;have xJ:2*m+k<I (kO F g):=by rw[N7];omega
 have aO:aQ g≠[]:=jH.1 (by rw[cW];omega);have ap:=cW g;have ab:=OT aO J;have jk:S.lone 9408896256=false:=ah;have jE:S.lone 9409024384=false:=ah;have eX:S.shared 175:=ah;refine sZ ?_;by_cases hm:(b,c)∈f.places
 .have Mb:decide ((b,c)∈f.places)=true:=pA hm;rw[Mb]at pc;have yR:(!f.eF==(((k:Nat):Int)==1))=(f.eF !=(k==1)):=by
   rcases(show k=0\/k=1 by omega)with rfl|rfl<;>cases f.eF<;>rfl
  have tK:I (di (fQ (aQ g) b c 2))=I (aQ g):=by simp[fQ]
  have y:List.take (I (aQ g)) (di (fQ (aQ g) b c 2))=di (fQ (aQ g) b c 2):=fx (by rw[tK];exact c3 _);cases ae:(f.eF !=(k==1))with
  |true=>
    rw[ae]at yR;simp only[go_sem,H9,v,u,h6,x,H,N,X,b6,b7,b8,aw,m2,m3,xJ,CR,Aa,Gb,dt.ps,yR,oT,aR.ps,abY,au pc];refine⟨aA,aA,?_⟩;refine mX ab jk (.inl rfl) λcc bG gc O=>?_;have T:=O 9408000000 U;have M:=O 9408128448 U;have R:=O 9408192448 U;simp only[go_sem,X]at T M R;simp only[go_sem,v,u,x,H,T,M,R,eX];refine KD (l:=aQ g) J U (Hh ag) gc λbh xI B=>?_;have D:=(B 9408000000 U).trans T;have z:=(B 9408128448 U).trans M;have E:=(B 9408192448 U).trans R;rcases xI with⟨e,_⟩|⟨_,gg,e,iG⟩
    .exact absurd (by simpa [fQ]using e) aO
    cases e;simp only[go_sem,v,u,x,H,D,z,E,iG,tK,y,jz];refine mX (lW (fQ (aQ g) b c 2) [oT b ((c+2:Nat):Int) f.eF,oT b ((c+1:Nat):Int) (!f.eF)] m (by rw[cY];omega) (by rw[cY];omega) aP) jE (.inr (fN (jw _))) λc2 mW L iL=>?_;simp only[go_sem];exact Z hm _ _ _ c2 (by simp only[go_sem]) (by simp only[go_sem]) (by unfold zb;rw[ae];exact L)
  |false=>
    rw[ae]at yR;simp only[go_sem,H9,v,u,h6,x,H,N,X,b6,b7,b8,aw,m2,m3,xJ,CR,Aa,Gb,dt.ps,yR,oT,aR.ps,abY,au pc];refine⟨aA,aA,?_⟩;refine mX ab jk (.inl rfl) λcc bG gc O=>?_;have T:=O 9408000000 U;have M:=O 9408128448 U;have R:=O 9408192448 U;simp only[go_sem,X]at T M R;simp only[go_sem,v,u,x,H,T,M,R,eX];refine KD (l:=aQ g) J U (Hh ag) gc λbh xI B=>?_;have D:=(B 9408000000 U).trans T;have z:=(B 9408128448 U).trans M;have E:=(B 9408192448 U).trans R;rcases xI with⟨e,_⟩|⟨_,gg,e,iG⟩
    .exact absurd (by simpa [fQ]using e) aO
    cases e;simp only[go_sem,v,u,x,H,D,z,E,iG,tK,y,jz];refine mX (lW (fQ (aQ g) b c 2) [oT b ((c+1:Nat):Int) f.eF,oT b ((c+2:Nat):Int) (!f.eF)] m (by rw[cY];omega) (by rw[cY];omega) aP) jE (.inr (fN (jw _))) λc2 mW L iL=>?_;simp only[go_sem];exact Z hm _ _ _ c2 (by simp only[go_sem]) (by simp only[go_sem]) (by unfold zb;rw[ae];exact L)
 have Mb:decide ((b,c)∈f.places)=false:=nr hm;rw[Mb]at pc;simp only[go_sem,H9,v,u,h6,x,H,N,X,b6,b7,b8,aw,m2,m3,xJ,CR,Aa,Gb,dt.ps,abY,au pc,w1];refine⟨aA,dM hm _ _ ?_ ?_ ?_ ?_ ?_ ?_ λi hi=>?_⟩
 .simp only[go_sem,v]
 .simp only[go_sem,u]
 .simp only[go_sem,h6]
 .simp only[go_sem,x]
 .simp only[go_sem,H]
 .simp only[go_sem]
 simp only[cD,aC hi]
def aCd(ab:cE F g){b c:Nat}(Z:m<I g)(Y:b<=F)(hc:c<=1000){l o:Bool}{sg:Int}:
  aK S 147 [.one (.p (kh F g)),ep 2 m b c l o sg] (uN (wS F g m b c)):=by
 have w1:=cN (n:=c) J;have w2:IntKind.i64.wrap ((c:Int)+2)=((c+2:Nat):Int):=(kA (x:=(c:Int)+2) J J).trans J;have X:=ab.len;have Gi:((I (aQ g):Int)==0)=false:=sK.2 (by rw[cW];omega);have vP:∀A y s f (L:cX),wS F g m b c=some L->A 4=.one f->A 5=gE true->cg s lg 7 (di L) (.one f) y->
   oR 0 (v_ S .all aar (sO .all [(4,none),(5,none)] λv aj=>iR aj v=some (uN (wS F g m b c)))) .ret A y:=λA y s f L hL H j h=>by
  simp only[go_sem,H,j];rw[hL];exact nA h
 refine bj akv ?_;simp only[go_sem,ads,w1,w2,Gi];have k0:2*m+0=2*m:=rfl;refine akX ab Z Y hc (k:=0) J (l:=l) (o:=o) (sg:=sg) ?_ ?_ ?_ ?_ ?_ ?_ ?_ ?_ ?_ ?_ ?_ ?_
 .simp only[go_sem]
 .simp only[go_sem]
 .simp only[go_sem]
 .simp only[go_sem]
 .simp only[go_sem]
 .simp only[go_sem];rfl
 .simp only[go_sem]
 .simp only[go_sem]
 .simp only[go_sem];rfl
 .simp only[go_sem];rfl
 .intro E A y M T R N q8 Q u;have O:(b,c)∉(dF F g (2*m)).places:=E;simp only[go_sem]at M T R N q8;refine akX ab Z Y hc (k:=1) J (l:=l) (o:=o) (sg:=sg) M T R N q8 Q ?_ ?_ ?_ ?_ ?_ ?_
  .rw[u _ U];simp only[go_sem]
  .rw[u _ U];simp only[go_sem]
  .rw[u _ U];simp only[go_sem];rfl
  .rw[u _ U];simp only[go_sem];rfl
  .intro z D B p0 p3 p6 p7 p8 M6 aW;have hr:wS F g m b c=none:=by unfold wS;rw[aC O,aC z]
   have lY:¬(((1+1:Nat):Int)<2):=U;refine sZ ?_;simp only[go_sem,H9,aar,M6,lY,hr];rfl
  intro z D B s f H j h;exact vP D B s f _ (by unfold wS;rw[aC O,aD z];rfl) H j h
 intro E D B s f H j h;have O:(b,c)∈(dF F g (2*m)).places:=E;exact vP D B s f _ (by unfold wS;rw[aD O];rfl) H j h
def Fg(g:ai)(m:Nat)(sg:Int)(o:Bool):cX:=fF (aQ g) [⟨⟨2,0,0,((an aa.aB g/2+1:Nat):Int),sg,o⟩,false⟩,⟨⟨2,0,0,((an aa.aB g/2+1:Nat):Int),sg,!o⟩,false⟩] m
def ate(L:cE F g)(Q:m<I g){b c:Int}{l o:Bool}{sg:Int}:
  aK S 150 [.one (.p (kh F g)),ep 5 m b c l o sg] (uN (some (Fg g m sg o))):=by
 have R:=L.cr;have B:=Me F (an aa.aB g/2) sg o (.sl (di (aQ g))) (.sl (kz (dG F g))) (.sl (a_ (kO F g))) (.int .i64 (an aa.aI g:Nat)) (.sl (a_ (gy g F))) 1 J J;have y:=Me F (an aa.aB g/2) sg (!o) (.sl (di (aQ g))) (.sl (kz (dG F g))) (.sl (a_ (kO F g))) (.int .i64 (an aa.aI g:Nat)) (.sl (a_ (gy g F))) 1 J J;have H:=L.len;have D:=cW g;have f:=lW (aQ g) [⟨⟨2,0,0,((an aa.aB g/2+1:Nat):Int),sg,o⟩,false⟩,⟨⟨2,0,0,((an aa.aB g/2+1:Nat):Int),sg,!o⟩,false⟩] m J J aP;have lo:S.lone 9600065280=false:=ah
 refine bj arQ ?_;have E:((1:Nat):Int)=1:=rfl;rw[E]at B y;have v:∀aj:aN,∀s,∀u h x x4 j n X:PV,fg aj [] s ((RV.agg [.p u,.p h,.p x,.p x4,.p j,.p n,.p X]).fR (S.lone s))=some (.agg [.p u,.p h,.p x,.p x4,.p j,.p n,.p X],[]):=λaj s u h x x4 j n X=>by cases S.lone s<;>rfl
 simp only[go_sem,ajc,uz,fp B (v _ _ _ _ _ _ _ _ _),fp y (v _ _ _ _ _ _ _ _ _),jz];refine lU f lo (.inr (fN (jw _))) λM N w A O z=>?_;simp only[go_sem];refine⟨?_,nA A⟩;rcases z with rfl|rfl<;>kernel_rfl
def nm(n:Nat)(i:Int):Bool:=decide (0<=i)&&decide (i<(n:Int))
def af8(i:Int)(n:Nat):aK S 145 [aH i,.one (.p (.box [.int .i64 n]))] (cO (nm n i)):=by
 refine bj azr ?_;unfold nm;by_cases h:0<=i
 .by_cases H:i<(n:Int)
  .simp only[go_sem,T8,h,H,af,ao]
  simp only[go_sem,T8,h,H,af,ao]
 simp only[go_sem,T8,h,af,ao]
def AK(l:ai):((bP l).all λe=>e.all PV.scalar):=by simp[aa.ps,PV.scalar]
abbrev tV(F:Nat)(L:ai):RV:=.tup [.agg [.p (.int .i64 F),cF eo 6 (bP L)],.one (.p (.int .i64 0))]
def tW(F:Nat)(g:ai)(k:Int):Option cX->RV
 |none=>qi 4
 |some L=>if(400:Int)<(I g:Int)+(iK k).1\/(100:Int)<((an aa.aB g/2:Nat):Int)+(iK k).2 then qi 7 else tV F (oF L)
def alV(L:cX):I (oF L)=I L:=by simp[oF,s5]
def lf(l x:cX)(k:Nat):I (fF l x k)=I l+I x:=by simp only[fF,gT,gX,kV];omega
end
end Go.Abs
