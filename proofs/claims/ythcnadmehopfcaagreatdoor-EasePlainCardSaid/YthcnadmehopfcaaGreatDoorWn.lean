/- A part. -/
import Derived.Test.YthcnadmehopfcaaGreatDoorWh
set_option linter.all false
set_option maxRecDepth 100000
set_option maxHeartbeats 16000000
namespace Go.Abs
section
variable{ls:List Let}{F:Nat}
theorem aeO{e:List PV}(h:e.length=1):∃x0,e=[x0]:=by
 match e,h with
 |[a],_=>exact⟨a,rfl⟩
theorem aeP{e:List PV}(h:e.length=2):∃x0 x1,e=[x0,x1]:=by
 match e,h with
 |[a,b],_=>exact⟨a,b,rfl⟩
structure xg (es fs:List (List PV)) (k:Nat):Prop where
 len:fs.length=es.length
 at':∀i,i<es.length->fs[i]?=if i<k\/es.length-1-i<k then es[es.length-1-i]? else es[i]?
theorem xg.start(es:List (List PV)):xg es es 0:=⟨rfl,fun i _=>by rw[ay aa]⟩
theorem xg.step{es fs:List (List PV)}{k:Nat}{a b:List PV}(h:xg es fs k)(hk:k<es.length-1-k)(ha:es[k]?=some a)(hb:es[es.length-1-k]?=some b):
  fs[k]?=some a/\fs[es.length-1-k]?=some b/\xg es ((fs.set k b).set (es.length-1-k) a) (k+1):=by
 have hlen:=h.len;refine⟨?_,?_,⟨by rw[tk,tk];exact hlen,fun i hi=>?_⟩⟩
 .rw[h.at' k aa,ay aa,ha]
 .rw[h.at' _ aa,ay aa,hb]
 rw[pQ,tk];by_cases e1:es.length-1-k=i
 .rw[aF e1,aF aa,aF aa,show es.length-1-i=k by omega,ha]
 rw[ay e1,pQ];by_cases e2:k=i
 .subst e2;rw[aF rfl,aF aa,aF aa,hb]
 rw[ay e2,h.at' i hi];by_cases e3:i<k\/es.length-1-i<k
 .rw[aF e3,aF aa]
 rw[ay e3,ay aa]
theorem xg.done{es fs:List (List PV)}{k:Nat}(h:xg es fs k)(hk:¬k<es.length-1-k):fs=es.reverse:=by
 refine K4 fun i=>?_;rcases Lf i es.length with hi|hi
 .rw[h.at' i hi,K6 hi];by_cases e:i<k\/es.length-1-i<k
  .rw[aF e]
  rw[ay e,show es.length-1-i=i by omega]
 rw[ti (by rw[h.len];exact hi),ti (by rw[rZ];exact hi)]
def Hj(id ty z:Nat)(es:List (List PV))(c:C)(aj:aA)(v:V)(ao:aA):Prop:=v=.tup []/\grown id ty z es.reverse (.one c) ao/\Kept (· =id) aj ao
theorem asC{al:Al}{aj:aA}{id ty:Nat}{es:List (List PV)}{c:C}(o:es=[]\/al.ok id=true)(hl:es.length<=1000000)(mK:∀e∈es,e.length=1/\ ∀v∈e,v.norm=v)(h:grown id ty 1 es (.one c) aj):
  ∃v ao,iF S 132 [.one c] al aj v ao/\Hj id ty 1 es c aj v ao:=by
 refine mA c132 (ig rfl) ?_;rcases h with ⟨rfl,h2⟩|⟨aI,g,h2,hC⟩
 .cases h2;have w0:IntKind.i64.wrap (((0:Nat):Int)-1)= -1:=ae;have hz:¬((0:Int)< -1):=ae;simp only[go_sem,i132,w0];refine cU (fun k ak ao=>k=0/\ak 2=vi 0/\ak 3=vi (-1)/\ao=aj) 0 0 (bJ _) ?_ ?_
  .simp only[go_sem]
  rintro k ak ao _ ⟨rfl,h2,h3,rfl⟩
  simp only[go_sem,i132_l1,h2,h3,hz];exact⟨rfl,.inl ⟨rfl,rfl⟩,fun _ _=>rfl⟩
 cases h2;have o:=o.resolve_left aI;have w0:=yI (a:=es.length) aa;simp only[go_sem,i132,w0];refine cU (fun k ak ao=>ak 0=.one (.hsl id g 1 0 es.length)/\ak 2=vi k/\ak 3=vi ((es.length:Int)-1-(k:Int))/\ ∃fs,ao id=(g,some (.arr ty 1 fs))/\xg es fs k/\Kept (· =id) aj ao) 0 es.length (bl _) ?_ ?_
 .simp only[go_sem];refine⟨rfl,af,es,hC,xg.start es,Kept.refl _ _⟩
 rintro k ak ao hk ⟨h0,h2,h3,fs,hF,hI,dw⟩
 by_cases au:k<es.length-1-k
 .have e1:((es.length:Int)-1-(k:Int))=((es.length-1-k:Nat):Int):=aa;rw[e1] at h3;have aL:((k:Int)<((es.length-1-k:Nat):Int)):=aa;have w1:=cA (n:=k) aa;have w2:IntKind.i64.wrap (((es.length-1-k:Nat):Int)-1)=((es.length:Int)-1-((k+1:Nat):Int)):=by
   rw[yI aa];omega
  obtain⟨a,ha⟩:=aM (show k<es.length by omega);obtain⟨b,hb⟩:=aM (show es.length-1-k<es.length by omega);obtain⟨fa,fb,wM⟩:=hI.step au ha hb;obtain⟨la,na⟩:=mK a (aU ha);obtain⟨lb,nb⟩:=mK b (aU hb);obtain⟨x0,rfl⟩:=aeO la;obtain⟨y0,rfl⟩:=aeO lb;have Na:=na x0 af;have Nb:=nb y0 af;have xY:=hI.len;have Gp:¬(k=es.length-1-k):=aa;have adf:¬(es.length-1-k=k):=aa;have l1:k<fs.length:=aa;have l2:es.length-1-k<fs.length:=aa;have l3:k<es.length:=aa;have l4:es.length-1-k<es.length:=aa;simp only[go_sem,i132_l1,h0,h2,h3,hF,aL,fa,fb,w1,w2,o,l1,l3,l4,Gp,Na,Nb,pQ];refine⟨aH,_,rfl,wM,?_⟩;exact(dw.dJ rfl _).dJ rfl _
 have aL:¬((k:Int)<(es.length:Int)-1-(k:Int)):=aa;simp only[go_sem,i132_l1,h2,h3,aL];refine⟨rfl,?_,dw⟩;rw[hI.done au] at hF;exact .inr ⟨by simpa using aI,g,by rw[rZ],hF⟩
theorem asE{al:Al}{aj:aA}{id ty:Nat}{es:List (List PV)}{c:C}(o:es=[]\/al.ok id=true)(hl:es.length<=1000000)(mK:∀e∈es,e.length=2/\ ∀v∈e,v.norm=v)(h:grown id ty 2 es (.one c) aj):
  ∃v ao,iF S 131 [.one c] al aj v ao/\Hj id ty 2 es c aj v ao:=by
 refine mA c131 (ig rfl) ?_;rcases h with ⟨rfl,h2⟩|⟨aI,g,h2,hC⟩
 .cases h2;have w0:IntKind.i64.wrap (((0:Nat):Int)-1)= -1:=ae;have hz:¬((0:Int)< -1):=ae;simp only[go_sem,i131,w0];refine cU (fun k ak ao=>k=0/\ak 2=vi 0/\ak 3=vi (-1)/\ao=aj) 0 0 (bJ _) ?_ ?_
  .simp only[go_sem]
  rintro k ak ao _ ⟨rfl,h2,h3,rfl⟩
  simp only[go_sem,i131_l1,h2,h3,hz];exact⟨rfl,.inl ⟨rfl,rfl⟩,fun _ _=>rfl⟩
 cases h2;have o:=o.resolve_left aI;have w0:=yI (a:=es.length) aa;simp only[go_sem,i131,w0];refine cU (fun k ak ao=>ak 0=.one (.hsl id g 2 0 es.length)/\ak 2=vi k/\ak 3=vi ((es.length:Int)-1-(k:Int))/\ ∃fs,ao id=(g,some (.arr ty 2 fs))/\xg es fs k/\Kept (· =id) aj ao) 0 es.length (bl _) ?_ ?_
 .simp only[go_sem];refine⟨rfl,af,es,hC,xg.start es,Kept.refl _ _⟩
 rintro k ak ao hk ⟨h0,h2,h3,fs,hF,hI,dw⟩
 by_cases au:k<es.length-1-k
 .have e1:((es.length:Int)-1-(k:Int))=((es.length-1-k:Nat):Int):=aa;rw[e1] at h3;have aL:((k:Int)<((es.length-1-k:Nat):Int)):=aa;have w1:=cA (n:=k) aa;have w2:IntKind.i64.wrap (((es.length-1-k:Nat):Int)-1)=((es.length:Int)-1-((k+1:Nat):Int)):=by
   rw[yI aa];omega
  obtain⟨a,ha⟩:=aM (show k<es.length by omega);obtain⟨b,hb⟩:=aM (show es.length-1-k<es.length by omega);obtain⟨fa,fb,wM⟩:=hI.step au ha hb;obtain⟨la,na⟩:=mK a (aU ha);obtain⟨lb,nb⟩:=mK b (aU hb);obtain⟨x0,x1,rfl⟩:=aeP la;obtain⟨y0,y1,rfl⟩:=aeP lb;have Na:=na x0 af;have Wj:=na x1 af;have Nb:=nb y0 af;have Wk:=nb y1 af;have xY:=hI.len;have Gp:¬(k=es.length-1-k):=aa;have adf:¬(es.length-1-k=k):=aa;have l1:k<fs.length:=aa;have l2:es.length-1-k<fs.length:=aa;have l3:k<es.length:=aa;have l4:es.length-1-k<es.length:=aa;simp only[go_sem,i131_l1,h0,h2,h3,hF,aL,fa,fb,w1,w2,o,l1,l3,l4,Gp,Na,Wj,Nb,Wk,pQ];refine⟨aH,_,rfl,wM,?_⟩;exact(dw.dJ rfl _).dJ rfl _
 have aL:¬((k:Int)<(es.length:Int)-1-(k:Int)):=aa;simp only[go_sem,i131_l1,h2,h3,aL];refine⟨rfl,?_,dw⟩;rw[hI.done au] at hF;exact .inr ⟨by simpa using aI,g,by rw[rZ],hF⟩
theorem Re{site ty z:Nat}{es:List (List PV)}{c:C}{aj:aA}(h:grown site ty z es (.one c) aj):(es=[]/\jc aj (.one c)=[])\/jc aj (.one c)=[site]:=by
 rcases h with ⟨h1,h2⟩|⟨h1,g,h2,h3⟩
 .cases h2;exact .inl ⟨h1,Ku⟩
 cases h2;exact .inr (show jK aj 6 (.hsl site g z 0 es.length)=[site] from Dj (n:=5) h3)
section
variable {al:Al} {Q:dD} {ak:Env} {aj:aA} {os:List bG} {d:Option Nat}
theorem acB{f id ty z:Nat}{es:List (List PV)}{c:C}(Wv:∀ {al:Al} {aj:aA},es=[]\/al.ok id=true->grown id ty z es (.one c) aj->∃v ao,iF S f [.one c] al aj v ao/\Hj id ty z es c aj v ao)(hs:S.sites f=[f])(hg:grown id ty z es (.one c) aj)(oid:al.ok id=true)(hf:al.fs.contains f=true)
  (hK:∀ao,grown id ty z es.reverse (.one c) ao->(∀i,i≠id->ao i=aj i)->RN S al os Q (put ak d (.tup [])) ao):gP S al (.sc f [.one c]) d os Q ak aj:=by
 refine qK (P:=Hj id ty z es c aj) (holds_of ?_ ?_) (Wv ?_ hg) ?_
 .show al.ft ([V.one c].map (jc aj)).flatten=true;rcases Re hg with ⟨_,h⟩|h
  .simp[h,Al.ft]
  simp[h,Al.ft,oid]
 .show(S.sites f).all al.fs.contains=true;rw[hs];simp only[mw,pP,hf,vY]
 .rcases Re hg with ⟨h,_⟩|h
  .exact .inl h
  exact .inr (r7 (by simp[h]))
 rintro v ao ⟨rfl,h1,h2⟩
 exact hK ao h1 h2
end
theorem atW:S.sites 131=[131]:=ah
theorem atV:S.sites 132=[132]:=ah
theorem X6(ok:eX F ls){x:Nat}(h:x<nD ls):aS ls x<nD ls:=RX ok.jD ok.hp h
abbrev tO(id:Nat):Prop:=iN id=105
structure FE (ls:List Let) (idS gS idB gB g8 gF:Nat) (sp:List Bool) (f:Fc) (cd cp cf:C) (aj:aA):Prop where
 bS:aj idS=(gS,some (.arr 4 1 (bP sp)))
 bB:aj idB=(gB,some (.arr 4 1 (bP (Cb ls))))
 b8:aj 6720000000=(g8,some (.var [.p (.bool false),.p .nils,.p .nils,.p .nils,.p (.bool false)]))
 bF:aj 6720128448=(gF,some (.var [.p (.bool f.gb),cd,cp,cf,.p (.bool f.outer)]))
 gd:grown 6720512256 3 1 (nP f.cG) (.one cd) aj
 gp:grown 6720896192 Dg 2 (oE f.places) (.one cp) aj
 gf:grown 6720896448 3 1 (nP f.xI) (.one cf) aj
theorem ai4(ok:eX F ls){f:Fc}{x k:Nat}(hx:x<nD ls)(h:f.cG.length<=k/\f.places.length<=k*(2*F+2)/\f.xI.length<=k*(2*F+2)):(f.add F ls x).cG.length<=k+1/\(f.add F ls x).places.length<=(k+1)*(2*F+2)/\(f.add F ls x).xI.length<=(k+1)*(2*F+2):=by
 obtain⟨i1,i2,i3⟩:=h;rw[So];unfold Fc.add;by_cases h:x<2*ls.length
 .rw[aF h];simp only[ff,dh,ez];exact⟨aa,aa,aa⟩
 rw[ay h];have hj:(x-2*ls.length)/2<(aB ls).length:=by unfold nD at hx;omega
 have l1:=af5 ok hj;have l2:=af4 ok hj;refine⟨by simp only;omega,?_,?_⟩
 .simp only[ff];split<;>(try rw[rZ])<;>omega
 simp only[ff];split<;>(try rw[rZ])<;>omega
theorem amf{al:Al}(ok:eX F ls)(hF:F<=1000)(okf:∀id,tO id->al.ok id=true){idS gS idB gB g8 gF d:Nat}(oS:al.ok idS=true)(nS:¬tO idS)(nB:¬tO idB)(nSB:idS≠idB)(f1:al.fs.contains 131=true)(f2:al.fs.contains 132=true)(hd:d<2*ls.length){Q:dD}:
  ∀(fuel k x:Nat) (ib:List Bool) (f:Fc) (ak:Env) (aj:aA) (cd cp cf:C),ak 0=.one (.p (mF F ls))->ak 2=.one (.hsl idS gS 1 0 (2*ls.length))->ak 8=.one (.aY 6720000000 g8 0)->ak 9=vi ls.length->ak 10=vi (aB ls).length->ak 11=.one (.aY 6720128448 gF 0)->ak 12=vi x->
   FE ls idS gS idB gB g8 gF (ib.take (2*ls.length)) f cd cp cf aj->ib.length=nD ls->x<nD ls->Inv (aS ls) (nD ls) d ib x->yG ib<fuel->(k+fuel<=5000000)->(f.cG.length<=k/\f.places.length<=k*(2*F+2)/\f.xI.length<=k*(2*F+2))->
   (∀aD ao Cd qG Ce,aD 8=ak 8->aD 11=ak 11->FE ls idS gS idB gB g8 gF ((eV (aS ls) fuel x ib).2.take (2*ls.length)) ((eV (aS ls) fuel x ib).1.foldl (Fc.add F ls) f) Cd qG Ce ao->(∀id,¬(tO id\/id=idS)->ao id=aj id)->Q .normal aD ao)->
   W S al (.loop i105_l1) (lU 0 Q) ak aj:=by
 have hl:=ok.hl;have fi:(aB ls).length<=1000000:=mT (wC ls ls.length) hl;have eZ:nD ls<=4000000:=by unfold nD;omega
 have m2:=ue (a:=ls.length) aa;have k0:al.ok 6720000000=true:=okf _ rfl;have kF:al.ok 6720128448=true:=okf _ rfl;have kd0:al.ok 6720512192=true:=okf _ rfl;have kd:al.ok 6720512256=true:=okf _ rfl;have kp:al.ok 6720896192=true:=okf _ rfl;have kf:al.ok 6720896448=true:=okf _ rfl;have kr1:al.ok 6720640128=true:=okf _ rfl;have kr2:al.ok 6720640129=true:=okf _ rfl;have hm:=maps ok;intro fuel
 induction fuel with
 |zero=>intro k x ib f ak aj cd cp cf _ _ _ _ _ _ _ _ _ _ _ h;omega
 |succ fuel ih=>
  intro k x ib f ak aj cd cp cf h0 h2 h8 h9 dZ gk iT hB I8 EF hi hu hk hlen hq;have hle:=hm.le;obtain⟨l1,l2,l3⟩:=hlen;have anu:k*(2*F+2)<=5000000*2002:=Nat.mul_le_mul aa aa;have Jr:=ai4 ok EF ⟨l1,l2,l3⟩;unfold eV at hq;have nSi:∀ {a:Nat},tO a->a≠idS:=fun h e=>nS (e▸h);have nBi:∀ {a:Nat},tO a->a≠idB:=fun h e=>nB (e▸h);have nF:¬(6720128448=idS):=nSi rfl;refine rm ?_;cases hs:ib.getD x true with
  |true=>
   have hxd:=hi.i4 hs;have au:x<2*ls.length:=aa;have aL:((x:Int)<((2*ls.length:Nat):Int)):=aa;rw[hs] at hq;simp only[if_true] at hq;have hb:(ib.take (2*ls.length))[x]?=some true:=by
    have h1:=XS au (show 2*ls.length<=ib.length by omega);rw[show sn ib x=true from hs,di] at h1;have zV:x<(ib.take (2*ls.length)).length:=by rw[fX];omega
    obtain⟨b,hb⟩:=aM zV;rw[hb] at h1 ⊢;exact congrArg some h1
   have ki:=sa hb;simp only[go_sem,i105_l1,h0,h2,h9,iT,m2,aL,au,hB.bS,ki,oS];exact hq _ _ cd cp cf (by simp only[go_sem]) (by simp only[go_sem]) hB (fun _ _=>rfl)
  |false=>
   have CU:ib[x]?=some false:=by
    rw[di] at hs;cases h1:ib[x]? with
    |none=>rw[h1] at hs;cases hs
    |some b=>rw[h1] at hs;exact congrArg some hs
   have zU:=On CU;have pt:=aaB ok x (by unfold nD at EF;exact EF);have cX:=hi.step hm I8 EF hs;rw[hs] at hq;simp only[dx,if_false,Ap] at hq;by_cases xV:x<2*ls.length
   .have aL:((x:Int)<((2*ls.length:Nat):Int)):=aa;have hb:(ib.take (2*ls.length))[x]?=some false:=by rw[kJ,aF xV];exact CU
    have ki:=sa hb;have gQ:=Ik (ib.take (2*ls.length)) x true;rw[ahD] at gQ;have Ja:f.add F ls x={f with cG:=f.cG++[x]}:=by unfold Fc.add;rw[aF xV]
    simp only[go_sem,i105_l1,h2,h9,gk,iT,m2,aL,xV,hB.bS,hB.bF,ki,gQ,oS,kF,kd0,nF];refine PD (site:=6720512256) (id:=6720512256) (bytes:=8) (xs:=[[.int .i64 (x:Int)]]) (rd:=[6720512192]) (by simp[kd,kd0]) (hB.gd.of_eq ((bd ae).trans (bd (nSi rfl)))) (by simp[fh,aN]) (.inl rfl) (by simp only[cD,dh,ez];omega) fun c bj hc bn=>?_;have Ji:∀i,i≠6720512192->i≠6720512256->i≠idS->bj i=aj i:=fun i a b c=>(bn i b b).trans ((bd a).trans (bd c))
    have anO:=(bn idS (nSi rfl).symm (nSi rfl).symm).trans ((bd (nSi rfl).symm).trans Ai);have FD:=(Ji 6720128448 ae ae (nSi rfl)).trans hB.bF;simp only[go_sem,FD,h0,gk,iT,kF,s102,Mk pt];refine ih (k+1) (aS ls x) (ib.set x true) (f.add F ls x) _ _ c cp cf ?_ ?_ ?_ ?_ ?_ ?_ ?_ ?_ (by rw[tk];exact I8) (X6 ok EF) cX aa aa Jr ?_
    .simp only[go_sem,h0]
    .simp only[go_sem,h2]
    .simp only[go_sem,h8]
    .simp only[go_sem,h9]
    .simp only[go_sem,dZ]
    .simp only[go_sem,gk]
    .simp only[go_sem]
    .rw[Ja];refine⟨?_,?_,?_,Ai,?_,?_,?_⟩
     .exact(bd (nSi rfl).symm).trans anO
     .exact(bd (nBi rfl).symm).trans ((Ji _ (nBi rfl).symm (nBi rfl).symm nSB.symm).trans hB.bB)
     .exact(bd ae).trans ((Ji _ ae ae (nSi rfl)).trans hB.b8)
     .exact(JZ _ _▸hc.of_eq (bd ae))
     .exact(hB.gp.of_eq (Ji _ ae ae (nSi rfl))).of_eq (bd ae)
     exact(hB.gf.of_eq (Ji _ ae ae (nSi rfl))).of_eq (bd ae)
    intro aD ao Cd qG Ce q8 EZ xP dw;refine hq aD ao Cd qG Ce (by rw[q8];simp only[go_sem]) (by rw[EZ];simp only[go_sem]) xP fun id hn=>?_;have a:∀y,tO y->id≠y:=fun y hy e=>hn (.inl (e▸hy));exact(dw id hn).trans ((bd (a _ rfl)).trans (Ji id (a _ rfl) (a _ rfl) fun e=>hn (.inr e)))
   have hj:(x-2*ls.length)/2<(aB ls).length:=by unfold nD at EF;omega
   have tL:=asG ok hF hj;have lP:=af5 ok hj;have lF:=af4 ok hj;have Ge:¬((x:Int)<((2*ls.length:Nat):Int)):=aa;have ws:=Yj (a:=x) (b:=2*ls.length) aa aa;have wq:=wrap_small (n:=(x-2*ls.length)/2) aa;have w2:=Hv (a:=(aB ls).length) aa aa;have PQ:((((x-2*ls.length)/2:Nat):Int)==(((aB ls).length-1:Nat):Int))=decide ((x-2*ls.length)/2+1=(aB ls).length):=by
    by_cases h:(x-2*ls.length)/2+1=(aB ls).length
    .rw[xx h];simp;omega
    rw[u4 h];simp;omega
   have nU:(f.add F ls x).outer=(f.outer||decide ((x-2*ls.length)/2+1=(aB ls).length)):=by unfold Fc.add;rw[ay xV]
   have VO:(f.add F ls x).gb=f.gb:=by unfold Fc.add;rw[ay xV]
   have VW:(f.add F ls x).cG=f.cG:=by unfold Fc.add;rw[ay xV]
   have Gv:(f.add F ls x).places=f.places++(if x%2=0 then tU F ls ((x-2*ls.length)/2) else (tU F ls ((x-2*ls.length)/2)).reverse):=by unfold Fc.add;rw[ay xV]
   have MQ:(f.add F ls x).xI=f.xI++(if x%2=0 then Df F ls ((x-2*ls.length)/2) else (Df F ls ((x-2*ls.length)/2)).reverse):=by unfold Fc.add;rw[ay xV]
   generalize f.add F ls x=f' at nU VO VW Gv MQ hq Jr;have mR:S.lone 6720640128=false:=ah;have sc1:∀l:List (Nat×Nat),((oE l).all fun e=>e.all PV.scalar)=true:=fun l=>by simp[PV.scalar]
   have sc2:∀l:List Nat,((nP l).all fun e=>e.all PV.scalar)=true:=fun l=>by simp[PV.scalar]
   have hnP:∀l:List (Nat×Nat),∀e∈oE l,e.length=2/\ ∀v∈e,v.norm=v:=fun l e he=>by obtain⟨a,_,rfl⟩:=dp.1 he;exact⟨rfl,fun v hv=>by simp at hv;rcases hv with rfl|rfl<;>rfl⟩
   have hnF:∀l:List Nat,∀e∈nP l,e.length=1/\ ∀v∈e,v.norm=v:=fun l e he=>by obtain⟨a,_,rfl⟩:=dp.1 he;exact⟨rfl,fun v hv=>by simp at hv;rcases hv with rfl;rfl⟩
   have rX:S.shared 131=true:=ah;have shI:S.shared 132=true:=ah;have l9:(ib.set x true).take (2*ls.length)=ib.take (2*ls.length):=ahC aa;generalize tU F ls ((x-2*ls.length)/2)=PP at*;generalize Df F ls ((x-2*ls.length)/2)=FF at*;simp only[go_sem,i105_l1,h0,h9,iT,m2,Ge,ws,wq,eo,fv,s130];refine amT (by simp[kr1,kr2]) tL mR (sc1 _) (sc2 _) fun c e bQ hc he hb=>?_;by_cases dQ:x%2=0
   .have Ni:((x:Int).tmod 2==1)=false:=by rw[jq,dQ];rfl
    rw[aF dQ] at Gv MQ;have hP:=hc;have hE:=he;have Cw:∀i,i≠6720640128->i≠6720640129->bQ i=aj i:=hb;have bFN:=(Cw 6720128448 ae ae).trans hB.bF;simp only[go_sem,eo,Ni,bFN,gk,iT,kF];obtain⟨rP,hxP,No⟩:=hP.elems;refine FP (site:=6720896192) (id:=6720896192) (bytes:=16) (by rcases No with rfl|rfl<;>simp[kp,kr1]) (hB.gp.of_eq (Cw _ ae ae)) hxP hP.gV (by simp only[cD];omega) fun c2 ij r1 u1 oY jV jE=>?_
    have FD:=(jV 6720128448 ae ae).trans bFN;simp only[go_sem,FD,gk,kF];obtain⟨rE,hxE,Nn⟩:=(hE.of_eq (jV _ ae ae)).elems;refine FP (site:=6720896448) (id:=6720896448) (bytes:=8) (by rcases Nn with rfl|rfl<;>simp[kf,kr2]) (hB.gf.of_eq ((jV _ ae ae).trans (Cw _ ae ae))) hxE hE.gV (by simp only[cD];omega) fun c3 yY r2 u2 MB Ej vA=>?_
    have Lu:=(Ej 6720128448 ae ae).trans FD;have dM:∀i,i≠6720640128->i≠6720640129->i≠6720896192->i≠6720896448->yY i=aj i:=fun i a b c d=>(Ej i d d).trans ((jV i c c).trans (Cw i a b));have VR:grown 6720896192 Dg 2 (oE f'.places) (.one c2) yY:=by rw[Gv,Kn];exact oY.of_eq (Ej _ ae ae)
    have VS:grown 6720896448 3 1 (nP f'.xI) (.one c3) yY:=by rw[MQ,JZ];exact MB
    clear oY MB;cases ho:f.outer;all_goals
     rw[ho] at Lu;simp only[go_sem,Lu,h0,dZ,gk,iT,kF,w2,PQ,s102,Mk pt];refine⟨?_,?_⟩
     .rcases No with rfl|rfl<;>rcases Nn with rfl|rfl<;>rcases jE with ⟨rfl,rfl⟩|⟨rfl,rfl⟩|⟨rfl,rfl⟩<;>rcases vA with ⟨rfl,rfl⟩|⟨rfl,rfl⟩|⟨rfl,rfl⟩<;>kernel_rfl
     refine ih (k+1) (aS ls x) (ib.set x true) f' _ _ cd c2 c3 ?_ ?_ ?_ ?_ ?_ ?_ ?_ ?_ (by rw[tk];exact I8) (X6 ok EF) cX aa aa Jr ?_
     .simp only[go_sem,h0]
     .simp only[go_sem,h2]
     .simp only[go_sem,h8]
     .simp only[go_sem,h9]
     .simp only[go_sem,dZ]
     .simp only[go_sem,gk]
     .simp only[go_sem]
     .rw[l9];refine⟨?_,?_,?_,?_,?_,?_,?_⟩
      .exact(bd (nSi rfl).symm).trans ((bd (nSi rfl).symm).trans ((bd (nSi rfl).symm).trans ((dM _ (nSi rfl).symm (nSi rfl).symm (nSi rfl).symm (nSi rfl).symm).trans hB.bS)))
      .exact(bd (nBi rfl).symm).trans ((bd (nBi rfl).symm).trans ((bd (nBi rfl).symm).trans ((dM _ (nBi rfl).symm (nBi rfl).symm (nBi rfl).symm (nBi rfl).symm).trans hB.bB)))
      .exact(bd ae).trans ((bd ae).trans ((bd ae).trans ((dM _ ae ae ae ae).trans hB.b8)))
      .rw[Ai,VO,nU,ho];rfl
      .rw[VW];exact hB.gd.of_eq ((bd ae).trans ((bd ae).trans ((bd ae).trans (dM _ ae ae ae ae))))
      .exact VR.of_eq ((bd ae).trans ((bd ae).trans (bd ae)))
      exact VS.of_eq ((bd ae).trans ((bd ae).trans (bd ae)))
     intro aD ao Cd qG Ce q8 EZ xP dw;refine hq aD ao Cd qG Ce (by rw[q8];simp only[go_sem]) (by rw[EZ];simp only[go_sem]) xP fun id hn=>?_;have a:∀y,tO y->id≠y:=fun y hy e=>hn (.inl (e▸hy));exact(dw id hn).trans ((bd (a _ rfl)).trans ((bd (a _ rfl)).trans ((bd (a _ rfl)).trans (dM id (a _ rfl) (a _ rfl) (a _ rfl) (a _ rfl)))))
   have Ni:((x:Int).tmod 2==1)=true:=by rw[jq,show x%2=1 by omega];rfl
   rw[ay dQ] at Gv MQ;simp only[go_sem,eo,Ni,iT,rX];refine acB (f:=131) (fun o h=>asE o (by simp only[cD];omega) (hnP _) h) atW hc kr1 f1 fun bj iC bn=>?_;simp only[go_sem,shI];refine acB (f:=132) (fun o h=>asC o (by simp only[cD];omega) (hnF _) h) atV (he.of_eq (bn _ ae)) kr2 f2 fun fT he1 gn=>?_;have hP:grown 6720640128 Dg 2 (oE PP.reverse) (.one c) fT:=by rw[oE,Si];exact iC.of_eq (gn _ ae)
   have hE:grown 6720640129 3 1 (nP FF.reverse) (.one e) fT:=by rw[nP,Si];exact he1
   have Cw:∀i,i≠6720640128->i≠6720640129->fT i=aj i:=fun i a b=>(gn i b).trans ((bn i a).trans (hb i a b));have bFN:=(Cw 6720128448 ae ae).trans hB.bF;simp only[go_sem,bFN,gk,kF];obtain⟨rP,hxP,No⟩:=hP.elems;refine FP (site:=6720896192) (id:=6720896192) (bytes:=16) (by rcases No with rfl|rfl<;>simp[kp,kr1]) (hB.gp.of_eq (Cw _ ae ae)) hxP hP.gV (by simp only[cD,rZ];omega) fun c2 ij r1 u1 oY jV jE=>?_
   have FD:=(jV 6720128448 ae ae).trans bFN;simp only[go_sem,FD,gk,kF];obtain⟨rE,hxE,Nn⟩:=(hE.of_eq (jV _ ae ae)).elems;refine FP (site:=6720896448) (id:=6720896448) (bytes:=8) (by rcases Nn with rfl|rfl<;>simp[kf,kr2]) (hB.gf.of_eq ((jV _ ae ae).trans (Cw _ ae ae))) hxE hE.gV (by simp only[cD,rZ];omega) fun c3 yY r2 u2 MB Ej vA=>?_
   have Lu:=(Ej 6720128448 ae ae).trans FD;have dM:∀i,i≠6720640128->i≠6720640129->i≠6720896192->i≠6720896448->yY i=aj i:=fun i a b c d=>(Ej i d d).trans ((jV i c c).trans (Cw i a b));have VR:grown 6720896192 Dg 2 (oE f'.places) (.one c2) yY:=by rw[Gv,Kn];exact oY.of_eq (Ej _ ae ae)
   have VS:grown 6720896448 3 1 (nP f'.xI) (.one c3) yY:=by rw[MQ,JZ];exact MB
   clear oY MB;cases ho:f.outer;all_goals
    rw[ho] at Lu;simp only[go_sem,Lu,h0,dZ,gk,iT,kF,w2,PQ,s102,Mk pt];refine⟨?_,?_⟩
    .rcases No with rfl|rfl<;>rcases Nn with rfl|rfl<;>rcases jE with ⟨rfl,rfl⟩|⟨rfl,rfl⟩|⟨rfl,rfl⟩<;>rcases vA with ⟨rfl,rfl⟩|⟨rfl,rfl⟩|⟨rfl,rfl⟩<;>kernel_rfl
    refine ih (k+1) (aS ls x) (ib.set x true) f' _ _ cd c2 c3 ?_ ?_ ?_ ?_ ?_ ?_ ?_ ?_ (by rw[tk];exact I8) (X6 ok EF) cX aa aa Jr ?_
    .simp only[go_sem,h0]
    .simp only[go_sem,h2]
    .simp only[go_sem,h8]
    .simp only[go_sem,h9]
    .simp only[go_sem,dZ]
    .simp only[go_sem,gk]
    .simp only[go_sem]
    .rw[l9];refine⟨?_,?_,?_,?_,?_,?_,?_⟩
     .exact(bd (nSi rfl).symm).trans ((bd (nSi rfl).symm).trans ((bd (nSi rfl).symm).trans ((dM _ (nSi rfl).symm (nSi rfl).symm (nSi rfl).symm (nSi rfl).symm).trans hB.bS)))
     .exact(bd (nBi rfl).symm).trans ((bd (nBi rfl).symm).trans ((bd (nBi rfl).symm).trans ((dM _ (nBi rfl).symm (nBi rfl).symm (nBi rfl).symm (nBi rfl).symm).trans hB.bB)))
     .exact(bd ae).trans ((bd ae).trans ((bd ae).trans ((dM _ ae ae ae ae).trans hB.b8)))
     .rw[Ai,VO,nU,ho];rfl
     .rw[VW];exact hB.gd.of_eq ((bd ae).trans ((bd ae).trans ((bd ae).trans (dM _ ae ae ae ae))))
     .exact VR.of_eq ((bd ae).trans ((bd ae).trans (bd ae)))
     exact VS.of_eq ((bd ae).trans ((bd ae).trans (bd ae)))
    intro aD ao Cd qG Ce q8 EZ xP dw;refine hq aD ao Cd qG Ce (by rw[q8];simp only[go_sem]) (by rw[EZ];simp only[go_sem]) xP fun id hn=>?_;have a:∀y,tO y->id≠y:=fun y hy e=>hn (.inl (e▸hy));exact(dw id hn).trans ((bd (a _ rfl)).trans ((bd (a _ rfl)).trans ((bd (a _ rfl)).trans (dM id (a _ rfl) (a _ rfl) (a _ rfl) (a _ rfl)))))
structure cH (F:Nat) (ls:List Let):Prop where
 ok:eX F ls
 len:ls.length<=400
 cr:aw Let.aC ls<=200
 fing:F<=40
 ne:ls≠[]
 first:∃l,ls[0]?=some l/\l.aG=true
 even:aw Let.aG ls%2=0
 bad:∀l∈ls,dy F l=false
 chk:cQ F ls=0
 nw:lh ls=aw Let.aG ls+aw Let.aC ls/2+2
theorem ss{f:Int}(h:cQ f ls=0)(aI:ls≠[]):∃F:Nat,f=(F:Int)/\cH F ls:=by
 have h0:=h;unfold cQ at h;by_cases h1:400<ls.length\/200<aw Let.aC ls
 .rw[aF h1] at h;cases h
 rw[ay h1] at h;by_cases h2:f<0\/40<f
 .rw[aF h2] at h;cases h
 rw[ay h2,ay aI] at h;cases hv:lz f ls with
 |false=>rw[hv] at h;simp at h
 |true=>
  obtain⟨F,rfl⟩:=th (show 0<=f by omega);refine⟨F,rfl,?_⟩;unfold lz at hv;simp only[cN] at hv;obtain⟨⟨⟨v1,v2⟩,v3⟩,v4⟩:=hv;obtain⟨dd,k9,eI⟩:=W3.1 v3;have tG:∀l∈ls,dy F l=false:=fun l hl=>by simpa using HD.1 dd l hl
  have hg:qL F ls:=fun l hl hp=>((sY hp).1 (tG l hl)).1.1.1;obtain⟨g1,g2⟩:=(N8 hg).1 k9;obtain⟨l0,tK⟩:=aM (jf.2 aI);rw[tK] at v1;exact⟨⟨aa,⟨g1,g2⟩,eI,fun l hl=>yX (tG l hl)⟩,aa,aa,aa,aI,⟨l0,tK,v1⟩,by simpa using v2,tG,h0,by simpa using v4⟩
def abZ(F:Nat)(ls:List Let)(idS gS:Nat)(x:Nat)(ib:List Bool)(aj:aA)(v:V)(ao:aA):Prop:=
 ∃f cd cp cf,f=((eV (aS ls) (nD ls+1) x ib).1).foldl (Fc.add F ls) (Fc.new ls x)/\v=.agg [.p (.bool f.gb),cd,cp,cf,.p (.bool f.outer)]/\ao idS=(gS,some (.arr 4 1 (bP ((eV (aS ls) (nD ls+1) x ib).2.take (2*ls.length)))))/\
  grown 6720512256 3 1 (nP f.cG) (.one cd) ao/\grown 6720896192 Dg 2 (oE f.places) (.one cp) ao/\grown 6720896448 3 1 (nP f.xI) (.one cf) ao/\Kept (fun id=>tO id\/id=idS) aj ao
theorem amh{al:Al}{F:Nat}{ls:List Let}(ok:eX F ls)(hF:F<=1000)(okf:∀id,tO id->al.ok id=true){idS gS idB gB x:Nat}(oS:al.ok idS=true)(oB:al.ok idB=true)(nS:¬tO idS)(nB:¬tO idB)(nSB:idS≠idB)(f1:al.fs.contains 131=true)(f2:al.fs.contains 132=true){ib:List Bool}{aj:aA}
  (hx:x<2*ls.length) (I8:ib.length=nD ls) (bR:Li (aS ls) (nD ls) ib) (hs:ib.getD x true=false) (bS:aj idS=(gS,some (.arr 4 1 (bP (ib.take (2*ls.length)))))) (bB:aj idB=(gB,some (.arr 4 1 (bP (Cb ls))))):
  ∃v ao,iF S 105 [.one (.p (mF F ls)),vi x,.one (.hsl idS gS 1 0 (2*ls.length)),.one (.hsl idB gB 1 0 ls.length)] al aj v ao/\abZ F ls idS gS x ib aj v ao:=by
 have hl:=ok.hl;have fi:(aB ls).length<=ls.length:=wC ls ls.length;have eZ:nD ls<=4000000:=by unfold nD;omega
 have k0:al.ok 6720000000=true:=okf _ rfl;have kF:al.ok 6720128448=true:=okf _ rfl;have wq:=wrap_small (n:=x/2) aa;have vG:x/2<ls.length:=aa;have ant:=sa (ajV vG);have nSi:∀ {a:Nat},tO a->a≠idS:=fun h e=>nS (e▸h);have nBi:∀ {a:Nat},tO a->a≠idB:=fun h e=>nB (e▸h);have nB0:¬(idB=6720000000):=fun e=>nBi rfl e.symm
 have hul:=KP ib;refine mA c105 (ig rfl) ?_;simp only[go_sem,i105,bB,nB0,k0,kF,oB,eo,fv,wq,vG,ant];refine⟨aH,?_⟩;refine amf ok hF okf (idS:=idS) (gS:=gS) (idB:=idB) (gB:=gB) (g8:=(aj 6720000000).1+1) (gF:=(aj 6720128448).1+1) (d:=x) oS nS nB nSB f1 f2 hx (nD ls+1) 0 x ib (Fc.new ls x) _ _ (.p .nils) (.p .nils) (.p .nils) ?_ ?_ ?_ ?_ ?_ ?_ ?_ ?_ I8 (by unfold nD;omega) (Inv.start bR hs) aa aa ⟨bJ _,bl _,bl _⟩ ?_
 .simp only[go_sem]
 .simp only[go_sem]
 .simp only[go_sem]
 .simp only[go_sem]
 .simp only[go_sem]
 .simp only[go_sem]
 .simp only[go_sem]
 .refine⟨?_,?_,?_,?_,grown.nil,grown.nil,grown.nil⟩
  .simp only[bd (nSi (a:=6720000000) rfl).symm,bd (nSi (a:=6720128448) rfl).symm,bS]
  .simp only[bd (nBi (a:=6720000000) rfl).symm,bd (nBi (a:=6720128448) rfl).symm,bB]
  .simp only[go_sem]
  simp only[go_sem,Fc.new]
 intro aD ao Cd qG Ce q8 EZ xP dw;simp only[go_sem] at q8 EZ;have h8:=xP.b8;have hf:=xP.bF;simp only[go_sem,i105_r2,q8,EZ,h8,hf,k0,kF];refine⟨_,Cd,qG,Ce,rfl,rfl,?_,?_,?_,?_,fun id hn=>?_⟩
 .exact(bd (nSi rfl).symm).trans xP.bS
 .exact xP.gd.of_eq (bd ae)
 .exact xP.gp.of_eq (bd ae)
 .exact xP.gf.of_eq (bd ae)
 have a:∀y,tO y->id≠y:=fun y hy e=>hn (.inl (e▸hy));refine(bd (a _ rfl)).trans ((dw id hn).trans ?_);simp only[bd (a 6720000000 rfl),bd (a 6720128448 rfl)]
theorem wK{s1 t1 z1:Nat}{es:List (List PV)}{c:C}{x:PV}{aj:aA}(h:grown s1 t1 z1 es (.one c) aj):iE aj (.tup [.one c,.one (.p x)])=some (.tup [.one (aT t1 z1 es),.one (.p x)]):=by obtain⟨c',o,hc,h2,h3⟩:=h.jv;cases hc;rcases h3 with rfl|rfl<;>simp[iE,sv,ux,ng,mj,h2,(show Go.Abs.jv aj (.p x)=some (.p x,[],[]) from rfl),apart,uS,rU,Ag]
theorem XE{aj:aA}{id g g0 z o l ty sz:Nat}{es:List (List PV)}(h:aj id=(g0,some (.arr ty sz es))):jc aj (.one (.hsl id g z o l))=[id]:=(Dj h:jK aj 6 (.hsl id g z o l)=[id])
theorem atS:(S.sites 105).contains 105=true:=ah
theorem atT:(S.sites 105).contains 131=true:=ah
theorem atU:(S.sites 105).contains 132=true:=ah
theorem ahB{S:List Bool}{n k:Nat}{b:Bool}(hk:k<n)(hn:n<=S.length)(h:S.getD k true=b):(S.take n)[k]?=some b:=by rw[kJ,aF hk];rw[di] at h;obtain⟨c,hc⟩:=aM (show k<S.length by omega);rw[hc] at h ⊢;exact congrArg some h
theorem amk(g:cH F ls):aK S 91 [dR F ls] (.tup [.one (aT AQ 5 (tD (eL F ls))),.one (.p (.int .i64 0))]):=by
 have ok:=g.ok;have hl:=ok.hl;have hF:F<=1000:=by have:=g.fing;omega
 have fi:(aB ls).length<=ls.length:=wC ls ls.length;have hlen:=g.len;have eZ:nD ls<=4000000:=by unfold nD;omega
 have h2n:2*ls.length<=nD ls:=by unfold nD;omega
 have pr:=Oa F ls hl;rw[Kw g.chk,ay g.ne,vZ] at pr;have pb:=ajX ok;have hm:=maps ok;have m2:=ue (a:=ls.length) aa;have kx:2*ls.length<=140737488355328:=aa;have vC:List.replicate (2*ls.length) [PV.bool false]=bP ((dG (aS ls) (nD ls) 0).2.take (2*ls.length)):=by show _=bP ((List.replicate (nD ls) false).take (2*ls.length));rw[List.take_replicate,Ar h2n];simp
 have hLB:∀aj:aA,land aj [] 5824384064 ((RV.one (.own 4 1 (bP (Cb ls)))).fP (S.lone 5824384064))=some (.one (.hsl 5824384064 ((aj 5824384064).1+1) 1 0 ls.length),[(5824384064,((aj 5824384064).1+1,some (.arr 4 1 (bP (Cb ls)))))]):=by intro aj;rw[show S.lone 5824384064=false by kernel_rfl];show some (V.one (.hsl 5824384064 ((aj 5824384064).1+1) 1 0 (bP (Cb ls)).length),_)=_;rw[show(bP (Cb ls)).length=ls.length by simp[uq]];rfl
 have iv:S.shared 105=true:=ah;refine bh c91 ?_;simp only[go_sem,i91,s26,cV pr gR,s104,cV pb (hLB _),m2,kx,vC];refine cU (fun k ak aj=>ak 4=.one (.p (mF F ls))/\ak 7=.one (.hsl 5824320448 1 1 0 (2*ls.length))/\ak 8=.one (.hsl 5824384064 1 1 0 ls.length)/\ak 29=vi ((2*ls.length:Nat):Int)/\ak 30=vi k/\
   aj 5824320448=(1,some (.arr 4 1 (bP ((dG (aS ls) (nD ls) k).2.take (2*ls.length)))))/\aj 5824384064=(1,some (.arr 4 1 (bP (Cb ls))))/\
   ∃vo,ak 6=.one vo/\grown 5824704448 AQ 5 (tD ((dG (aS ls) (nD ls) k).1.map (nc F ls))) (.one vo) aj) 0 (2*ls.length) (bl _) ?_ ?_
 .simp only[go_sem];first|exact⟨rfl,rfl,rfl,_,rfl,.inl ⟨rfl,rfl⟩⟩|exact⟨rfl,rfl,_,rfl,.inl ⟨rfl,rfl⟩⟩|exact⟨rfl,_,rfl,.inl ⟨rfl,rfl⟩⟩|exact⟨rfl,rfl,rfl,rfl,_,rfl,.inl ⟨rfl,rfl⟩⟩
 rintro k ak aj hk ⟨h4,h7,h8,h29,h30,bS,bB,vo,h6,go⟩
 by_cases au:k<2*ls.length
 .have aL:((k:Int)<((2*ls.length:Nat):Int)):=aa;have w1:=cA (n:=k) aa;obtain⟨bR,_⟩:=R5 hm k aa;have V7:=Hr (aS ls) (nD ls) k;have Ey:=Ot (aS ls) (nD ls) k;have cX:=yH (aS ls) (nD ls) k;generalize hw:dG (aS ls) (nD ls) k=st at*;obtain⟨o,ib⟩:=st;simp only at bR V7 Ey bS go;unfold uX at cX;cases hs:ib.getD k true with
  |true=>simp only[hs,if_true] at cX;have hb:=sa (ahB au aa hs);simp only[go_sem,i91_l1,h4,h6,h7,h8,h29,h30,bS,bB,au,aL,hb,w1,cX];exact⟨vo,rfl,go⟩
  |false=>
   simp only[hs,dx,if_false,V7] at cX;have hb:=sa (ahB au aa hs);obtain⟨t,ht⟩:=ahX (aS ls) (k:=nD ls) hs;have xZ:((eV (aS ls) (nD ls+1) k ib).1).foldl (Fc.add F ls) (Fc.new ls k)=nc F ls (eV (aS ls) (nD ls+1) k ib).1:=by unfold nc;rw[ht];rfl
   have eS:=amg (F:=F) (t:=t) au;rw[<- ht] at eS;simp only[go_sem,i91_l1,h4,h6,h7,h8,h29,h30,bS,bB,au,aL,hb,iv];have ads:jc aj (.one (.hsl 5824320448 1 1 0 (2*ls.length)))=[5824320448]:=XE bS;have Nq:jc aj (.one (.hsl 5824384064 1 1 0 ls.length))=[5824384064]:=XE bB;refine qK (P:=abZ F ls 5824320448 1 k ib aj) yj (amh ok hF (fun id h=>um (by rw[h];exact atS)) (r7 ?_) (r7 ?_) ae ae ae ?_ ?_ au V7 bR hs bS bB) ?_
   .simp only[dK,lQ,ads,Nq];simp
   .simp only[dK,lQ,ads,Nq];simp
   .exact atT
   .exact atU
   rintro v bQ ⟨f,cd,cp,cf,hf,rfl,bS1,gd,gp,gf,dw⟩
   rw[xZ] at hf;rw[<- hf] at eS;have Lt:=(dw 5824384064 ae).trans bB;have go1:=go.of_eq (dw 5824704448 ae);have nU:tD (o.map (nc F ls))++[f.ps]=tD ((dG (aS ls) (nD ls) (k+1)).1.map (nc F ls)):=by rw[cX,hf];simp
   have hS2:(dG (aS ls) (nD ls) (k+1)).2=(eV (aS ls) (nD ls+1) k ib).2:=by rw[cX]
   have aog:(tD (o.map (nc F ls))).length<=k:=by simpa using Ey
   generalize tD (o.map (nc F ls))=outs at go1 nU aog;have gd0:=gd;rcases gd with ⟨e,_⟩|⟨_,gg,e,hbd⟩
   .simp at e;exact absurd e eS
   cases e;simp only[go_sem];rw[cD] at gd0;obtain⟨fr,hx,AZ,Gj⟩:=alz (aj:=dJ bQ 5824704384 ((bQ 5824704384).1+1,some (.iI AQ 5 [[.p (.bool f.gb),.hsl 6720512256 gg 1 0 f.cG.length,cp,cf,.p (.bool f.outer)]]))) (s:=5824704384) Ai (gd0.of_eq (bd ae)) (gp.of_eq (bd ae)) (gf.of_eq (bd ae));have nf:∀i,i≠6720512256->i≠6720896192->i≠6720896448->i∉fr:=fun i a b c h=>by
    rcases Gj i h with h|h|h
    .exact a h
    .exact b h
    exact c h
   refine amP (site:=5824704448) (id:=5824704448) (bytes:=88) (go1.of_eq (bd ae)) hx AZ (nf _ ae ae ae) (nf _ ae ae ae) (.inl rfl) (by simp only[dh,ez];omega) fun c bj hc bn=>?_;have BS':=(bn 5824320448 ae ae (nf _ ae ae ae)).trans ((bd ae).trans bS1);have BB':=(bn 5824384064 ae ae (nf _ ae ae ae)).trans ((bd ae).trans Lt);simp only[go_sem,h4,h6,h7,h8,h29,h30,BS',BB',w1,au,hS2];refine⟨c,rfl,?_⟩;rw[<- nU];exact hc
 have:k=2*ls.length:=aa;subst this;simp only[go_sem,i91_l1,i91_r2,h6,h29,h30,dT];have:=Ye hm (nD ls) h2n (bJ _);unfold eL gI;rw[this];exact wK go
structure Pc where
 l:Let
 d:Bool
def Pc.ps(p:Pc):List PV:=[.int .i64 p.l.kind,.int .i64 p.l.gate,.int .i64 p.l.aE,.int .i64 p.l.id,.int .i64 p.l.sign,.bool p.l.over,.bool p.d]
abbrev dN(o:List Pc):List (List PV):=o.map Pc.ps
abbrev ml:Nat:=147
def kz:Let:=⟨0,0,0,0,0,false⟩
def pieces(ls:List Let):List Pc:=(List.range ls.length).map fun i=>⟨ls.getD i kz,iJ ls i⟩
theorem gG(ls:List Let):(pieces ls).length=ls.length:=by simp[pieces]
theorem pM{i:Nat}{l:Let}(h:ls[i]?=some l):(pieces ls)[i]?=some ⟨l,iJ ls i⟩:=by have:=(aW.1 h).1;simp only[pieces,fQ,uf this,mz,di,h,mV]
theorem jJ{o:List Pc}{k:Nat}{p:Pc}(h:o[k]?=some p):(dN o)[k]?=some p.ps:=by simp[h]
def oG(L:List Nat)(ds:List Nat)(v:Nat):List Nat:=ds.foldl (fun L d=>L.set d v) L
def qt:List Fc->Nat->List Nat->List Nat
 |[],_,L=>L
 |f::r,j,L=>qt r (j+1) (oG L f.cG j)
def og(F:Nat)(ls:List Let):List Nat:=qt (eL F ls) 0 (List.replicate (2*ls.length) 0)
theorem Oe(L ds:List Nat)(v:Nat):(oG L ds v).length=L.length:=by
 induction ds generalizing L with
 |nil=>rfl
 |cons d ds ih=>show(oG (L.set d v) ds v).length=_;rw[ih];simp
theorem as2(L a b:List Nat)(v:Nat):oG L (a++b) v=oG (oG L a v) b v:=by simp[oG]
theorem QC(fs:List Fc):∀(j:Nat) (L:List Nat),(qt fs j L).length=L.length:=by
 induction fs with
 |nil=>intro j L;rfl
 |cons f r ih=>intro j L;show(qt r (j+1) _).length=_;rw[ih,Oe]
theorem apo(a:List Fc)(f:Fc):∀(j:Nat) (L:List Nat),qt (a++[f]) j L=oG (qt a j L) f.cG (j+a.length):=by
 induction a with
 |nil=>intro j L;rfl
 |cons g r ih=>intro j L;show qt (r++[f]) (j+1) _=_;rw[ih];simp[qt];congr 1;omega
theorem ai1(F:Nat)(ls:List Let):∀(w:List Nat) (f:Fc),(w.foldl (Fc.add F ls) f).cG=f.cG++w.filter (fun x=>decide (x<2*ls.length)):=by
 intro w
 induction w with
 |nil=>intro f;simp
 |cons x w ih=>
  intro f;rw[Ap,ih];unfold Fc.add;by_cases h:x<2*ls.length
  .rw[aF h,List.filter_cons_of_pos (by simpa using h)];simp
  rw[ay h,Yt (by simpa using h)]
theorem IT(F:Nat)(ls:List Let)(w:List Nat):(nc F ls w).cG=w.filter (fun x=>decide (x<2*ls.length)):=by unfold nc;rw[ai1];rfl
theorem Vq{f:Fc}(h:f∈eL F ls):∀d∈f.cG,d<2*ls.length:=by
 obtain⟨w,_,rfl⟩:=dp.1 h;intro d hd;rw[IT] at hd
 simpa using (uZ.1 hd).2
theorem Vr(ok:eX F ls){f:Fc}(h:f∈eL F ls):f.cG.length<=nD ls:=by obtain⟨w,hw,rfl⟩:=dp.1 h;rw[IT];exact mT (List.length_filter_le _ _) (Hs ok w hw).2.1
theorem abY(F:Nat)(ls:List Let):(eL F ls).length=lh ls:=by simp[eL,lh]
theorem Vs{o:List Fc}{k:Nat}{p:Fc}(h:o[k]?=some p):(tD o)[k]?=some p.ps:=by simp[h]
abbrev eQ(F:Nat)(ls:List Let):PV:=.box [.int .i64 F,.sl (dN (pieces ls)),.sl (tD (eL F ls)),.sl (nP (og F ls)),.int .i64 (aw Let.aG ls:Nat),.int .i64 ((aw Let.aC ls/2:Nat):Int),.sl (nP (counts ls F))]
abbrev Lz(F:Nat)(ls:List Let)(pc cf:C):List C:=[.p (.int .i64 F),pc,cf,.hsl 4608256448 1 1 0 (2*ls.length),.p (.int .i64 (aw Let.aG ls:Nat)),.p (.int .i64 ((aw Let.aC ls/2:Nat):Int)),.hsl 4608256960 1 1 0 (F+1)]
theorem aqM{F:Nat}{ls:List Let}(g:cH F ls){pc cf:C}{ak:Env}{aj:aA}{Q:dD}(h4:ak 4=.one cf)(h6:ak 6=.one (.aY 4608257088 1 0))
  (bB:aj 4608257088=(1,some (.var (Lz F ls pc cf)))) (bL:aj 4608256448=(1,some (.arr 3 1 (nP (List.replicate (2*ls.length) 0))))) (bC:aj 4608256960=(1,some (.arr 3 1 (nP (counts ls F))))) (gp:grown 4608896448 ml 7 (dN (pieces ls)) (.one pc) aj) (gf:grown 4608064064 AQ 5 (tD (eL F ls)) (.one cf) aj)
  (hq:∀aD ao,aD 6=ak 6->ao 4608257088=(1,some (.var (Lz F ls pc cf)))->ao 4608256448=(1,some (.arr 3 1 (nP (og F ls))))->ao 4608256960=(1,some (.arr 3 1 (nP (counts ls F))))->grown 4608896448 ml 7 (dN (pieces ls)) (.one pc) ao->grown 4608064064 AQ 5 (tD (eL F ls)) (.one cf) ao->W S .all i72_r5 Q aD ao):
  W S .all i72_r6 Q ak aj:=by
 have ok:=g.ok;have hl:=ok.hl;have hlen:=g.len;have fi:(aB ls).length<=ls.length:=wC ls ls.length;have eZ:nD ls<=4000000:=by unfold nD;omega
 have xY:(eL F ls).length<=nD ls:=by rw[eL,cD];exact Ot (aS ls) (nD ls) _
 obtain⟨g0,VT⟩:∃gg,cf=.hsl 4608064064 gg 5 0 (eL F ls).length:=by
  rcases gf with ⟨e,_⟩|⟨_,gg,e,hb⟩
  .have h1:(eL F ls).length=0:=by simpa using congrArg List.length e
   rw[abY,g.nw] at h1;omega
  cases e;exact⟨gg,by rw[cD]⟩
 have uA:=h4;rw[VT] at uA;simp only[go_sem,i72_r6,uA];refine cU (fun k aD ao=>aD 6=ak 6/\aD 78=.one cf/\aD 79=vi (eL F ls).length/\aD 80=vi k/\ao 4608257088=(1,some (.var (Lz F ls pc cf)))/\ao 4608256448=(1,some (.arr 3 1 (nP (qt ((eL F ls).take k) 0 (List.replicate (2*ls.length) 0)))))/\ao 4608256960=(1,some (.arr 3 1 (nP (counts ls F))))/\
   grown 4608896448 ml 7 (dN (pieces ls)) (.one pc) ao/\grown 4608064064 AQ 5 (tD (eL F ls)) (.one cf) ao) 0 (eL F ls).length (bl _) ?_ ?_
 .simp only[go_sem,bB,bL,bC,qt,VT];exact⟨rfl,gp,by first|exact gf|(rw[<- VT];exact gf)⟩
 rintro k aD ao hk ⟨q6,h78,h79,h80,bB,bL,bC,gp,gf⟩
 rw[h6] at q6;by_cases au:k<(eL F ls).length
 .have aL:((k:Int)<((eL F ls).length:Int)):=aa;obtain⟨f,hf⟩:=aM au;have Gk:=Vs hf;have o9:=aU hf;have hdl:=Vr ok o9;have hdd:=Vq o9;have w1:=cA (n:=k) aa;have l9:qt ((eL F ls).take (k+1)) 0 (List.replicate (2*ls.length) 0)=oG (qt ((eL F ls).take k) 0 (List.replicate (2*ls.length) 0)) f.cG k:=by
   rw[kX,hf];show qt (_++[f]) 0 _=_;rw[apo,fX,Ar aa,iQ]
  have hLl:(qt ((eL F ls).take k) 0 (List.replicate (2*ls.length) 0)).length=2*ls.length:=by rw[QC,Yx]
  generalize qt ((eL F ls).take k) 0 (List.replicate (2*ls.length) 0)=L at bL l9 hLl;obtain⟨gg,vm,bf⟩:∃gg,cf=.hsl 4608064064 gg 5 0 (tD (eL F ls)).length/\ao 4608064064=(gg,some (.arr AQ 5 (tD (eL F ls)))):=by
   rcases gf with ⟨e,_⟩|⟨_,gg,e,hb⟩
   .have:(eL F ls).length=0:=by simpa using congrArg List.length e
    omega
   cases e;exact⟨gg,rfl,hb⟩
  rw[cD] at vm;have VM:=h78;rw[vm] at VM;simp only[go_sem,i72_l4,VM,h79,h80,bf,Gk,Fc.ps,au,aL];refine cU (fun j cZ bj=>cZ 6=.one (.aY 4608257088 1 0)/\cZ 11=vi k/\cZ 78=.one cf/\cZ 79=vi (eL F ls).length/\cZ 80=vi k/\cZ 86=.one (.p (.sl (nP f.cG)))/\cZ 87=vi f.cG.length/\cZ 88=vi j/\
   bj 4608257088=(1,some (.var (Lz F ls pc cf)))/\bj 4608256448=(1,some (.arr 3 1 (nP (oG L (f.cG.take j) k))))/\bj 4608256960=(1,some (.arr 3 1 (nP (counts ls F))))/\grown 4608896448 ml 7 (dN (pieces ls)) (.one pc) bj/\grown 4608064064 AQ 5 (tD (eL F ls)) (.one cf) bj) 0 f.cG.length (bl _) ?_ ?_
  .simp only[go_sem,q6,vm,VM,h79,h80,bB,bL,bC,oG,Sg];refine⟨rfl,gp.of_eq (bd ae),?_⟩;first|exact gf.of_eq (bd ae)|(rw[<- vm];exact gf.of_eq (bd ae))
  rintro j cZ bj hj ⟨p6,p11,p78,p79,p80,p86,p87,p88,cB,cL,cC,cp,cg⟩
  by_cases sL:j<f.cG.length
  .have Gr:((j:Int)<(f.cG.length:Int)):=aa;obtain⟨d,hd⟩:=aM sL;have kN:=jY hd;have hdb:=hdd d (aU hd);have w2:=cA (n:=j) aa;have gQ:(oG L (f.cG.take j) k).set d k=oG L (f.cG.take (j+1)) k:=by rw[kX,hd,as2];rfl
   have fp:=Ka (oG L (f.cG.take j) k) d k;rw[gQ] at fp;obtain⟨v0,hv0⟩:=aM (ls:=oG L (f.cG.take j) k) (k:=d) (by rw[Oe,hLl];exact hdb);have hv:=jY hv0;simp only[go_sem,i72_l2,p6,p11,p78,p79,p80,p86,p87,p88,cB,cL,cC,sL,Gr,kN,hdb,hv,fp,w2];exact⟨cp.of_eq (bd ae),cg.of_eq (bd ae)⟩
  have:j=f.cG.length:=aa;subst this;rw[jQ,<- l9] at cL;simp only[go_sem,i72_l2,i72_r3,p6,p78,p79,p80,p87,p88,cB,cL,cC,dT,w1,au,h6];exact⟨cp,cg⟩
 have:k=(eL F ls).length:=aa;subst this;rw[jQ] at bL;simp only[go_sem,i72_l4,h79,h80,dT];exact hq _ _ (by simp only[go_sem,q6,h6]) bB bL bC gp gf
theorem Xl(g:cH F ls):aK S 72 [dR F ls] (yC (eQ F ls) (.int .i64 0)):=by
 have ok:=g.ok;have hl:=ok.hl;have hlen:=g.len;have zE:=g.fing;have pf:=amk g;have pps:=Xp F ls hl;have pcs:=aas F ls hl;have lo:S.lone 4608064064=false:=ah;have m2:=ue (a:=ls.length) aa;have wF:=cA (n:=F) aa;have r1:2*ls.length*8<=140737488355328:=aa;have r2:(F+1)*8<=140737488355328:=aa;have e1:List.replicate (2*ls.length) [PV.int .i64 0]=nP (List.replicate (2*ls.length) 0):=af;have e2:List.replicate (F+1) [PV.int .i64 0]=nP (rA ls F 0):=by rw[Ti];simp
 refine bh c72 ?_;simp only[go_sem,i72,s91];refine acx pf lo fun cf nL vm mJ=>?_;have Lr:=mJ 4608000000 ae;simp only[go_sem] at Lr;simp only[go_sem,Lr,m2,wF,r1,r2,s92,s93,gJ pps,gJ pcs,e1,e2];refine⟨aH,?_⟩;have hz:∀j,j≠4608064064->j≠4608000000->nL j=(0,none):=fun j a b=>(mJ j a).trans (bd b);have z1:=hz 4608256448 ae ae;have z2:=hz 4608256960 ae ae;have z3:=hz 4608257088 ae ae;refine cU (fun k ak aj=>ak 4=.one cf/\ak 6=.one (.aY 4608257088 1 0)/\ak 7=vb (dn ls k)/\ak 42=.one (.p (cK ls))/\ak 43=vi ls.length/\ak 44=vi k/\
   aj 4608256448=(1,some (.arr 3 1 (nP (List.replicate (2*ls.length) 0))))/\aj 4608256960=(1,some (.arr 3 1 (nP (rA ls F k))))/\
   ∃pc,aj 4608257088=(1,some (.var (Lz F ls pc cf)))/\grown 4608896448 ml 7 (dN ((pieces ls).take k)) (.one pc) aj/\grown 4608064064 AQ 5 (tD (eL F ls)) (.one cf) aj) 0 ls.length (bl _) ?_ ?_
 .simp only[go_sem,z1,z2,z3];refine⟨rfl,rfl,.p .nils,rfl,.inl ⟨rfl,rfl⟩,vm.of_eq ?_⟩;simp only[go_sem]
 rintro k ak aj hk ⟨h4,h6,h7,tF,Ms,Mt,bL,bC,pc,bB,gp,gf⟩
 by_cases au:k<ls.length
 .obtain⟨l,cP⟩:=aM au;have hi:=ia cP;have aL:((k:Int)<(ls.length:Int)):=aa;have w1:=cA (n:=k) aa;have wT:=pM cP;cases hp:(l.kind==1) with
  |false=>
   have iX:l.aG=false:=hp;have kN:iJ ls k=false:=by simp[iJ,cP,iX]
   rw[kN] at wT;have hd:=LU cP iX;have xU:=aao (F:=F) cP iX;have l9:dN ((pieces ls).take (k+1))=dN ((pieces ls).take k)++[(Pc.mk l false).ps]:=by rw[kX,wT];simp
   simp only[go_sem,i72_l1,h6,tF,Ms,Mt,hi,Let.ps,aL,hp,bB];refine AO (site:=4608896448) (id:=4608896448) (bytes:=56) (xs:=[(Pc.mk l false).ps]) (rd:=[4608896384]) (gp.of_eq (by simp only[aN,Nat.reduceEqDiff,if_false])) (by simp[fh,aN,Pc.ps]) (.inl rfl) (by simp only[cD,dh,ez,fX,gG];omega) fun c bQ r u hc hb hr=>?_;have kO:∀i,i≠4608896448->i≠4608896384->i≠4608576128->i≠4608512128->i≠4608256960->bQ i=aj i:=fun i a b c d e=>(hb i a a).trans (by simp only[aN,ay b,ay c,ay d])
   have ME:=(hb 4608256960 ae ae);simp only[aN,Nat.reduceEqDiff,if_false,bC] at ME;have Lt:=(kO 4608257088 ae ae ae ae ae).trans bB;have bL1:=(kO 4608256448 ae ae ae ae ae).trans bL;simp only[go_sem,h4,h6,h7,tF,Ms,Mt,Lt,bL1,ME,w1,hd,xU,au];refine⟨?_,?_⟩
   .rcases hr with ⟨rfl,rfl⟩|⟨rfl,rfl⟩|⟨rfl,rfl⟩<;>kernel_rfl
   refine⟨c,rfl,?_,?_⟩
   .rw[l9];exact hc.of_eq (bd ae)
   exact gf.of_eq ((bd ae).trans (kO _ ae ae ae ae ae))
  |true=>
   have iX:l.aG=true:=hp;have kN:iJ ls k=dn ls k:=by simp[iJ,cP,iX]
   rw[kN] at wT;have hd:=IG cP iX;have l9:dN ((pieces ls).take (k+1))=dN ((pieces ls).take k)++[(Pc.mk l (dn ls k)).ps]:=by rw[kX,wT];simp
   have vq:=ok.ax.eF l (aU cP) iX;obtain⟨G,hG⟩:=th vq.g0;have I7:G<=F:=by have:=vq.g1;omega
   have F7:G<F+1:=aa;have wO:=jY (aam (ls:=ls) (k:=k) I7);have bR:cg (ls.take k) G<=k:=y7 _ _ _;have w2:=cA (n:=cg (ls.take k) G) aa;have s1:=Ka (rA ls F k) G (cg (ls.take k) G+1);rw[<- aan cP iX hG] at s1;simp only[go_sem,i72_l1,h6,h7,tF,Ms,Mt,hi,Let.ps,aL,hp,hG,bB,bC,wO,F7,w2,s1];refine⟨aH,?_⟩;refine AO (site:=4608896448) (id:=4608896448) (bytes:=56) (xs:=[(Pc.mk l (dn ls k)).ps]) (rd:=[4608896384]) (gp.of_eq (by simp only[aN,Nat.reduceEqDiff,if_false])) (by simp[fh,aN,Pc.ps,hG]) (.inl rfl) (by simp only[cD,dh,ez,fX,gG];omega) fun c bQ r u hc hb hr=>?_
   have kO:∀i,i≠4608896448->i≠4608896384->i≠4608576128->i≠4608512128->i≠4608256960->bQ i=aj i:=fun i a b c d e=>(hb i a a).trans (by simp only[aN,ay b,ay c,ay d,ay e]);have ME:=(hb 4608256960 ae ae);simp only[aN,Nat.reduceEqDiff,if_false,if_true,bC] at ME;have Lt:=(kO 4608257088 ae ae ae ae ae).trans bB;have bL1:=(kO 4608256448 ae ae ae ae ae).trans bL;simp only[go_sem,h4,h6,h7,tF,Ms,Mt,Lt,bL1,ME,w1,hd,au];refine⟨?_,?_⟩
   .rcases hr with ⟨rfl,rfl⟩|⟨rfl,rfl⟩|⟨rfl,rfl⟩<;>kernel_rfl
   refine⟨c,rfl,?_,?_⟩
   .rw[l9];exact hc.of_eq (bd ae)
   exact gf.of_eq ((bd ae).trans (kO _ ae ae ae ae ae))
 have:k=ls.length:=aa;subst this;rw[fR (by rw[gG];exact bJ _)] at gp;rw[Th] at bC;simp only[go_sem,i72_l1,Ms,Mt,dT];refine aqM g (pc:=pc) (cf:=cf) ?_ ?_ bB bL bC gp gf ?_
 .simp only[go_sem,h4]
 .simp only[go_sem,h6]
 intro aD ao q6 cB cL cC gp' gf';simp only[go_sem,h6] at q6;obtain⟨rp,np,_⟩:=gp'.XT (n:=4);obtain⟨rf,nf,_⟩:=gf'.XT (n:=4);have t1:List.take (2*ls.length) (nP (og F ls))=nP (og F ls):=fR (by simp[og,QC]);have t2:List.take (F+1) (nP (counts ls F))=nP (counts ls F):=fR (by simp[counts]);have n1:2*ls.length<=(og F ls).length:=by simp[og,QC]
 have n2:F+1<=(counts ls F).length:=by simp[counts]
 simp only[go_sem,i72_r5,q6];simp only[go_sem,iE,sv,ux,ng,mj,jv,cB,cL,cC,np,nf,t1,t2,n1,n2];rfl
theorem vX{x:Int}(h1: -9223372036854775808<=x)(h2:x<=9223372036854775807):IntKind.i64.wrap x=x:=by
 have e:(2 ^ IntKind.i64.bits:Int)=18446744073709551616:=ae;have e2:(2 ^ (IntKind.i64.bits-1):Int)=9223372036854775808:=ae;unfold IntKind.wrap;simp only[e,e2];by_cases h:0<=x
 .have h3:x%18446744073709551616=x:=aa;rw[h3];have h4:¬x≥9223372036854775808:=aa;simp[h4]
 have h3:x%18446744073709551616=x+18446744073709551616:=aa;rw[h3];have h4:x+18446744073709551616≥9223372036854775808:=aa;have h5:IntKind.i64.signed=true:=rfl;simp[h4,h5]
theorem auD(l:List Pc):gV 7 (dN l)=true:=by simp[gV,Pc.ps]
theorem Dk(l:List Pc):((dN l).all fun e=>e.all PV.scalar)=true:=by simp[Pc.ps,PV.scalar]
abbrev EH(l x:List Pc)(k:Nat):List Pc:=l.take (k+1)++x++l.drop (k+1)
theorem af3(a b:List Pc):dN (a++b)=dN a++dN b:=af
theorem akE(p:Pc)(t:List Pc)(hl:(p::t).length<=1000000):aK S 144 [.one (.p (.sl (dN (p::t))))] (.one (aT ml 7 (dN (p::t)))):=by
 have hs:=auD (p::t);have hr:(0+(dN (p::t)).length)*56<=room:=by unfold room;rw[cD];omega
 refine bh c144 ?_;obtain⟨e0,es,hq⟩:∃e0 es,dN (p::t)=e0::es:=⟨_,_,rfl⟩;rw[hq] at hs hr ⊢;have aI:e0::es≠[]:=af;have rH:aT ml 7 (e0::es)=.own ml 7 (e0::es):=ay aI;rw[rH];unfold room at hr;simp only[iQ,dh] at hr;simp only[gV,mw] at hs;simp only[go_sem,i144,fL,gV];simp only[hs,hr,not_true_eq_false,if_true,if_false];simp only[go_sem];exact Km Ai rfl
def rX(g ab b:Int)(p:Pc):Pc:=if (p.l.kind==1)&&((p.l.gate==g)&&decide (ab<p.l.aE)) then {p with l:={p.l with aE:=p.l.aE+b}} else p
abbrev j5(l:List Pc)(g ab b:Int):List Pc:=l.map (rX g ab b)
def ag6(id:Nat)(es:List (List PV))(c:C)(aj:aA)(v:V)(ao:aA):Prop:=v=.tup []/\grown id ml 7 es (.one c) ao/\Kept (· =id) aj ao
theorem atc{al:Al}{aj:aA}{id:Nat}{l:List Pc}{c:C}{g ab b:Int}(o:l=[]\/al.ok id=true)(hl:l.length<=1000000)(hb: -100<=b/\b<=100)(hr:∀p∈l,-1000000<=p.l.aE/\p.l.aE<=1000000)(h:grown id ml 7 (dN l) (.one c) aj):
  ∃v ao,iF S 142 [.one c,vi g,vi ab,vi b] al aj v ao/\ag6 id (dN (j5 l g ab b)) c aj v ao:=by
 refine mA c142 (ig rfl) ?_;rcases h with ⟨h1,h2⟩|⟨aI,gg,h2,hC⟩
 .cases h2;have hln:l=[]:=by simpa using h1
  subst hln;have hz:¬(((0:Nat):Int)<((0:Nat):Int)):=aa;simp only[go_sem,i142];refine cU (fun k ak ao=>k=0/\ak 10=vi ((0:Nat):Int)/\ak 11=vi ((0:Nat):Int)/\ao=aj) 0 0 (bJ _) ?_ ?_
  .simp only[go_sem];exact rfl
  rintro k ak ao _ ⟨rfl,dZ,gk,rfl⟩
  simp only[go_sem,i142_l1,dZ,gk,hz];exact⟨rfl,.inl ⟨rfl,rfl⟩,fun _ _=>rfl⟩
 cases h2;have o:=o.resolve_left (by simpa using aI);simp only[go_sem,i142];refine cU (fun k ak ao=>ak 0=.one (.hsl id gg 7 0 l.length)/\ak 1=vi g/\ak 2=vi ab/\ak 3=vi b/\ak 10=vi l.length/\ak 11=vi k/\ao id=(gg,some (.arr ml 7 (dN ((j5 (l.take k) g ab b)++l.drop k))))/\Kept (· =id) aj ao) 0 l.length (bl _) ?_ ?_
 .simp only[go_sem,hC];refine⟨?_,?_⟩
  .simp[]
  exact Kept.refl _ _
 rintro k ak ao hk ⟨h0,h1,h2,h3,dZ,gk,hF,dw⟩
 by_cases au:k<l.length
 .have aL:((k:Int)<(l.length:Int)):=aa;obtain⟨p,hp⟩:=aM au;have w1:=cA (n:=k) aa;obtain⟨r1,r2⟩:=hr p (aU hp);have wr:=vX (x:=p.l.aE+b) aa aa;have zB:l.drop k=p::l.drop (k+1):=by
   obtain⟨hh,rfl⟩:=aW.1 hp;exact Yr hh
  have hlen:((j5 (l.take k) g ab b)++l.drop k).length=l.length:=by simp[j5];omega
  have jC:((j5 (l.take k) g ab b)++l.drop k)[k]?=some p:=by
   rw[v8 (by simp[j5];omega)];have:k-(j5 (l.take k) g ab b).length=0:=by simp[j5];omega
   rw[this,zB];rfl
  have gQ:((j5 (l.take k) g ab b)++l.drop k).set k (rX g ab b p)=(j5 (l.take (k+1)) g ab b)++l.drop (k+1):=by
   have e1:(j5 (l.take k) g ab b).length=k:=by simp[j5];omega
   rw[YC _ _ aa,e1,HO,zB,YD,kX,hp];simp[j5]
  have hJ:=jJ jC;have Eu:dN (((j5 (l.take k) g ab b)++l.drop k).set k (rX g ab b p))=(dN ((j5 (l.take k) g ab b)++l.drop k)).set k (rX g ab b p).ps:=by simp[dN,K9]
  rw[gQ] at Eu;have Bd:rX g ab b p=p->dN ((j5 (l.take k) g ab b)++l.drop k)=dN ((j5 (l.take (k+1)) g ab b)++l.drop (k+1)):=fun e=>by rw[Eu,e];obtain⟨hh,he⟩:=aW.1 hJ;rw[<- he,aiq]
  generalize (j5 (l.take k) g ab b)++l.drop k=m at hF jC hJ Eu Bd hlen;have nj:k<(dN m).length:=by rw[cD];omega
  cases c1:(p.l.kind==1) with
  |false=>have e:=Bd (by unfold rX;rw[c1];rfl);simp only[go_sem,i142_l1,h0,h1,h2,h3,dZ,gk,hF,hJ,Pc.ps,au,aL,c1,w1,o];exact⟨by rw[e],dw⟩
  |true=>
   cases c2:(p.l.gate==g) with
   |false=>have e:=Bd (by unfold rX;rw[c1,c2];rfl);simp only[go_sem,i142_l1,h0,h1,h2,h3,dZ,gk,hF,hJ,Pc.ps,au,aL,c1,c2,w1,o];exact⟨by rw[e],dw⟩
   |true=>
    by_cases c3:ab<p.l.aE
    .have e:(rX g ab b p).ps=[.int .i64 p.l.kind,.int .i64 p.l.gate,.int .i64 (p.l.aE+b),.int .i64 p.l.id,.int .i64 p.l.sign,.bool p.l.over,.bool p.d]:=by unfold rX;rw[c1,c2,xx c3];rfl
     rw[e] at Eu;simp only[go_sem,i142_l1,h0,h1,h2,h3,dZ,gk,hF,hJ,Pc.ps,au,aL,c1,c2,c3,w1,wr,o];refine⟨?_,?_⟩
     .first|rw[Eu]|(rw[Eu];rfl)
     exact dw.dJ rfl _
    have e:=Bd (by unfold rX;rw[c1,c2,u4 c3];rfl);simp only[go_sem,i142_l1,h0,h1,h2,h3,dZ,gk,hF,hJ,Pc.ps,au,aL,c1,c2,c3,w1,o];exact⟨by rw[e],dw⟩
 have:k=l.length:=aa;subst this;simp only[go_sem,i142_l1,dZ,gk,dT];refine⟨rfl,?_,dw⟩;rw[jQ,K0,jP] at hF;exact .inr ⟨by simpa using aI,gg,by simp[j5],hF⟩
def G9(p:Pc):Bool:=(p.l.kind==1)&&p.d
def pdA(l:List Pc)(i:Nat):Bool:=match l[i]? with|some p=>G9 p|none=>false
theorem Xt{l:List Pc}{i:Nat}{p:Pc}(h:l[i]?=some p):pdA l i=G9 p:=by simp[pdA,h]
def uw(l:List Pc):Option Nat:=(List.range l.length).find? (pdA l)
theorem aln(p:Pc):aK S 122 [.agg (p.ps.map .p)] (rb (G9 p)):=by
 refine bh c122 ?_;unfold G9;cases h:(p.l.kind==1) with
 |true=>simp only[go_sem,i122,Pc.ps,h]
 |false=>simp only[go_sem,i122,Pc.ps,h]
theorem aoL(l:List Pc)(hl:l.length<=1000000):aK S 121 [.one (.p (.sl (dN l))),.one (.p (.fn 122 [] []))] (ri (match uw l with|some k=>(k:Int)|none=> -1)):=by
 refine bh c121 ?_;simp only[go_sem,i121];refine cU (fun k ak aj=>ak 0=.one (.p (.sl (dN l)))/\ak 1=.one (.p (.fn 122 [] []))/\ak 7=vi l.length/\ak 8=vi k/\ ∀j,j<k->pdA l j=false) 0 l.length (bl _) ?_ ?_
 .simp only[go_sem];exact⟨rfl,fun j hj=>absurd hj (nE j)⟩
 rintro k ak aj hk ⟨h0,h1,h7,h8,hn⟩
 by_cases au:k<l.length
 .have aL:((k:Int)<(l.length:Int)):=aa;obtain⟨p,hp⟩:=aM au;have hJ:=jJ hp;have w1:=cA (n:=k) aa;have pd:=aln p;have qP:=Xt hp;cases hb:G9 p with
  |true=>rw[hb] at pd qP;have hf:uw l=some k:=Cp au hn qP;simp only[Pc.ps,dK,j7] at pd;simp only[go_sem,i121_l1,h0,h1,h7,h8,aL,hJ,Pc.ps,s122,dA pd,hf]
  |false=>
   rw[hb] at pd qP;simp only[Pc.ps,dK,j7] at pd;simp only[go_sem,i121_l1,h0,h1,h7,h8,au,aL,hJ,Pc.ps,s122,dA pd,w1];intro j hj;rcases mU.1 hj with h|rfl
   .exact hn j h
   exact qP
 have:k=l.length:=aa;subst this;have hf:uw l=none:=IU hn;simp only[go_sem,i121_l1,i121_r2,h7,h8,dT,hf]
abbrev lN:Nat:=50
def vS(l:List Pc)(amI k:Nat):List Let:=(List.range k).map fun i=>(l.getD ((amI+i)%l.length) ⟨kz,false⟩).l
theorem asK{l:List Pc}{f k:Nat}{p:Pc}(h:l[(f+k)%l.length]?=some p):vS l f (k+1)=vS l f k++[p.l]:=by simp[vS,we,di,h]
def lV(l:List Pc):List Let:=vS l ((uw l).getD 0) l.length
abbrev dF(o:List Let):List (List PV):=o.map Let.ps
theorem ang{s1 t1 z1:Nat}{es:List (List PV)}{c:C}{x:PV}{aj:aA}(h:grown s1 t1 z1 es (.one c) aj):iE aj (.agg [.p x,c])=some (.agg [.p x,aT t1 z1 es]):=by obtain⟨c',o,hc,h2,h3⟩:=h.jv;cases hc;rcases h3 with rfl|rfl<;>simp[iE,sv,ng,mj,h2,(show Go.Abs.jv aj (.p x)=some (.p x,[],[]) from rfl),apart,uS,rU]
theorem amp(F:Nat)(l:List Pc)(hl:l.length<=1000000)(x1 x2 x3 x4 x5 x6:PV):aK S 99 [.one (.p (.box [.int .i64 F,x1,x2,x3,x4,x5,x6])),.one (.p (.sl (dN l)))] (.agg [.p (.int .i64 F),aT lN 6 (dF (lV l))]):=by
 have px:=aoL l hl;have hfd:∃f,(uw l).getD 0=f/\(l≠[]->f<l.length):=by
  refine⟨_,rfl,fun aI=>?_⟩;cases h:uw l with
  |none=>exact jf.2 aI
  |some k=>exact gA.1 (Lb h)
 obtain⟨f,hf,xY⟩:=hfd;have rJ:((uw l=none/\f=0)\/uw l=some f):=by
  cases h:uw l with
  |none=>rw[h] at hf;exact .inl ⟨rfl,hf.symm⟩
  |some k=>rw[h] at hf;exact .inr (congrArg some hf)
 unfold lV;rw[hf];have main:∀(ak:Env) (aj:aA),ak 1=.one (.p (.sl (dN l)))->ak 4=.one (.aY 6336000000 1 0)->ak 5=.one (.aY 6336064320 1 0)->ak 6=vi f->ak 17=vi l.length->ak 18=vi ((0:Nat):Int)->aj 6336000000=(1,some (.var [.p (.int .i64 0),.p .nils]))->aj 6336064320=(1,some (.var [.p (.int .i64 F),.p .nils]))->
   W S .all (.loop i99_l1) (lU 0 (yF S .all i99_r2 (mH .all [(4,some (some 2))] fun v aj=>iE aj v=some (.agg [.p (.int .i64 F),aT lN 6 (dF (vS l f l.length))])))) ak aj:=by
  intro ak aj e1 e4 e5 e6 IK IL b0 bO;refine cU (fun k ak aj=>ak 1=.one (.p (.sl (dN l)))/\ak 4=.one (.aY 6336000000 1 0)/\ak 5=.one (.aY 6336064320 1 0)/\ak 6=vi f/\ak 17=vi l.length/\ak 18=vi k/\aj 6336000000=(1,some (.var [.p (.int .i64 0),.p .nils]))/\ ∃c,aj 6336064320=(1,some (.var [.p (.int .i64 F),c]))/\grown 6336384832 lN 6 (dF (vS l f k)) (.one c) aj) 0 l.length (bl _) ⟨e1,e4,e5,e6,IK,IL,b0,.p .nils,bO,.inl ⟨rfl,rfl⟩⟩ ?_;rintro k ak aj hk ⟨h1,h4,h5,h6,iU,gO,b0,c,bO,gc⟩
  by_cases au:k<l.length
  .have aL:((k:Int)<(l.length:Int)):=aa;have aI:l≠[]:=jf.1 aa;have xY:=xY aI;have w1:=cA (n:=k) aa;have w2:=wrap_add (a:=f) (b:=k) aa;have e2:=uU (f+k) l.length;have hm:=dO (f+k) (show 0<l.length by omega);obtain⟨p,hp⟩:=aM hm;have hJ:=jJ hp;have hz:¬((l.length:Int)=0):=aa;have hr:=asK hp;have hle:(vS l f k).length=k:=by simp[vS]
   simp only[go_sem,i99_l1,h1,h5,h6,iU,gO,bO,aL,w2,e2,hz,hJ,Pc.ps];refine AO (site:=6336384832) (id:=6336384832) (bytes:=48) (xs:=[p.l.ps]) (rd:=[6336384768]) (gc.of_eq (bd ae)) (by simp[fh,aN,Let.ps]) (.inl rfl) (by simp only[cD,hle,dh,ez];omega) fun c' bQ r u hc hb hru=>?_;have bO1:=(hb 6336064320 ae ae).trans ((bd ae).trans bO);have b01:=(hb 6336000000 ae ae).trans ((bd ae).trans b0);simp only[go_sem,h1,h4,h5,h6,iU,gO,bO1,b01,au,w1];refine⟨?_,c',rfl,?_⟩
   .rcases hru with ⟨rfl,rfl⟩|⟨rfl,rfl⟩|⟨rfl,rfl⟩<;>kernel_rfl
   rw[hr,dF,j6];exact hc.of_eq (bd ae)
  have:k=l.length:=aa;subst this;simp only[go_sem,i99_l1,i99_r2,h4,h5,iU,gO,bO,b0,dT];exact ang (gc.of_eq (bd ae))
 refine bh c99 ?_;rcases rJ with ⟨hn,rfl⟩|hs
 .rw[hn] at px;have M3:¬((0:Int)< -1):=ae;simp only[go_sem,i99,s121,dY px];exact main _ _ (by simp only[go_sem]) (by simp only[go_sem]) (by simp only[go_sem]) (by simp only[go_sem];rfl) (by simp only[go_sem]) (by simp only[go_sem];rfl) (by simp only[go_sem]) (by simp only[go_sem])
 rw[hs] at px;simp only[go_sem,i99,s121,dY px];exact main _ _ (by simp only[go_sem]) (by simp only[go_sem]) (by simp only[go_sem]) (by simp only[go_sem];split<;>(first|rfl|(congr 1;simp;omega))) (by simp only[go_sem]) (by simp only[go_sem];rfl) (by simp only[go_sem]) (by simp only[go_sem])
theorem ao8:aK S 97 [] (.agg [.p .yz,.p (.fn 112 [] []),.p (.fn 113 [] []),.p (.fn 114 [] []),.p (.fn 115 [] []),.p (.fn 116 [] []),.p (.fn 117 [] []),.p (.fn 118 [] []),.p (.fn 119 [] []),.p (.fn 120 [] []),.p (.fn 120 [] [])]):=by refine bh c97 ?_;simp only[go_sem,i97];rfl
def lJ(k:Int):Int×Int:=if k=2 then (2,0) else if k=5 then (2,1) else if k=7 then (4,2) else (0,0)
theorem anh(k:Int):aK S 98 [vi k] (.tup [.one (.p (.int .i64 (lJ k).1)),.one (.p (.int .i64 (lJ k).2))]):=by
 refine bh c98 ?_;unfold lJ;by_cases h2:k=2
 .subst h2;simp only[go_sem,i98];rfl
 by_cases h5:k=5
 .subst h5;simp only[go_sem,i98];rfl
 by_cases h7:k=7
 .subst h7;simp only[go_sem,i98];rfl
 rw[ay h2,ay h5,ay h7];have e2:(k==2)=false:=by simpa using h2
 have e5:(k==5)=false:=by simpa using h5
 have e7:(k==7)=false:=by simpa using h7
 simp only[go_sem,i98,e2,e5,e7];rfl
theorem Z2{l:List Pc}(aI:l≠[])(hl:l.length<=1000000):aK S 144 [.one (.p (.sl (dN l)))] (.one (aT ml 7 (dN l))):=by
 cases l with
 |nil=>exact absurd rfl aI
 |cons p t=>exact akE p t hl
section
variable {Q:dD} {ak:Env} {aj:aA} {os:List bG} {d:Option Nat}
theorem acC{id:Nat}{l:List Pc}{c:C}{g ab b:Int}(hl:l.length<=1000000)(hb: -100<=b/\b<=100)(hr:∀p∈l,-1000000<=p.l.aE/\p.l.aE<=1000000)(hg:grown id ml 7 (dN l) (.one c) aj)
  (hK:∀ao,grown id ml 7 (dN (j5 l g ab b)) (.one c) ao->(∀i,i≠id->ao i=aj i)->RN S .all os Q (put ak d (.tup [])) ao):gP S .all (.sc 142 [.one c,vi g,vi ab,vi b]) d os Q ak aj:=by
 have ho:l=[]\/(allow (S.ctx .all) 142 [.one c,vi g,vi ab,vi b] aj).ok id=true:=by
  rcases Re hg with ⟨h,_⟩|h
  .exact .inl (by simpa using h)
  exact .inr (r7 (by simp[h]))
 refine qK (P:=ag6 id (dN (j5 l g ab b)) c aj) yj (atc ho hl hb hr hg) ?_;rintro v ao ⟨rfl,h1,h2⟩
 exact hK ao h1 h2
end
theorem aps(fs:List Fc):∀(j:Nat) (L:List Nat),∀v∈qt fs j L,v∈L\/v<j+fs.length:=by
 have gQ:∀(ds:List Nat) (L:List Nat) (x:Nat),∀v∈oG L ds x,v∈L\/v=x:=by
  intro ds
  induction ds with
  |nil=>intro L x v h;exact .inl h
  |cons d ds ih=>
   intro L x v h;rcases ih (L.set d x) x v h with h|h
   .rcases List.mem_or_eq_of_mem_set h with h|h
    .exact .inl h
    exact .inr h
   exact .inr h
 induction fs with
 |nil=>intro j L v h;exact .inl h
 |cons f r ih=>
  intro j L v h;rcases ih (j+1) (oG L f.cG j) v h with h|h
  .rcases gQ _ _ _ v h with h|h
   .exact .inl h
   subst h;exact .inr af
  exact .inr (by simp only[dh];omega)
def NQ:Fc:=⟨false,[],[],[],false⟩
def kM(F:Nat)(ls:List Let)(d:Nat):Fc:=(eL F ls).getD ((og F ls).getD d 0) NQ
theorem WY(F:Nat)(ls:List Let):(og F ls).length=2*ls.length:=by simp[og,QC]
theorem Vp(g:cH F ls){d:Nat}(hd:d<2*ls.length):∃j,(og F ls)[d]?=some j/\(eL F ls)[j]?=some (kM F ls d)/\j<(eL F ls).length:=by
 obtain⟨j,hj⟩:=aM (ls:=og F ls) (k:=d) (by rw[WY];exact hd);have hn:0<(eL F ls).length:=by rw[abY,g.nw];omega
 have nO:j<(eL F ls).length:=by
  rcases aps (eL F ls) 0 _ j (aU hj) with h|h
  .have:=Sf h;omega
  omega
 refine⟨j,hj,?_,nO⟩;obtain⟨f,hf⟩:=aM nO;unfold kM;rw[di (l:=og F ls),hj,mV,di,hf];rfl
def afr(b:Nat)(r:Int)(d:Bool):Pc:=⟨⟨1,b,r,0,0,false⟩,d⟩
def OR(ls:List Let)(av b c:Nat)(f:Fc)(side:Bool):List Pc:=EH (j5 (pieces ls) b c 2) [afr b (if f.gb !=side then ((c+2:Nat):Int) else ((c+1:Nat):Int)) f.gb,afr b (if f.gb !=side then ((c+1:Nat):Int) else ((c+2:Nat):Int)) (!f.gb)] av
def amR(F:Nat)(ls:List Let)(av b c:Nat):Option (List Pc):=
 if (b,c)∈(kM F ls (2*av)).places then some (OR ls av b c (kM F ls (2*av)) false)
 else if (b,c)∈(kM F ls (2*av+1)).places then some (OR ls av b c (kM F ls (2*av+1)) true) else none
def kR (o:Option (List Pc)):RV:=.tup [.one (aT ml 7 (dN (o.getD []))),.one (.p (.bool o.isSome))]
theorem asf(g:cH F ls):∀p∈pieces ls,-1000000<=p.l.aE/\p.l.aE<=1000000:=by
 intro p hp;obtain⟨i,hi⟩:=je hp;have ye:i<ls.length:=by rw[<- gG];exact(aW.1 hi).1
 obtain⟨l,hl⟩:=aM ye;rw[pM hl] at hi;cases hi;rcases g.ok.kinds l (aU hl) with h|h
 .have hg:=g.ok.ax.eF l (aU hl) h;have:=hg.r0;have:=hg.r1;have hc:cg ls l.gate.toNat<=ls.length:=tx _ _;have:=g.len;simp only;omega
 have:=(QN (f:=F) h).1 (g.bad l (aU hl));simp only[this.1.2];omega
def lmR(ls:List Let)(av:Nat)(sg:Int)(o:Bool):List Pc:=EH (pieces ls) [⟨⟨2,0,0,((aw Let.aC ls/2+1:Nat):Int),sg,o⟩,false⟩,⟨⟨2,0,0,((aw Let.aC ls/2+1:Nat):Int),sg,!o⟩,false⟩] av
def iZ(n:Nat)(i:Int):Bool:=decide (0<=i)&&decide (i<(n:Int))
theorem is_p(i:Int)(n:Nat):aK S 111 [vi i,.one (.p (.box [.int .i64 n]))] (rb (iZ n i)):=by
 refine bh c111 ?_;unfold iZ;by_cases h1:0<=i
 .by_cases h2:i<(n:Int)
  .simp only[go_sem,i111,h1,h2]
  simp only[go_sem,i111,h1,h2]
 simp only[go_sem,i111,h1]
theorem Kz(l:List Let):((dF l).all fun e=>e.all PV.scalar)=true:=by simp[Let.ps,PV.scalar]
abbrev kW(F:Nat)(L:List Let):RV:=.tup [.agg [.p (.int .i64 F),aT lN 6 (dF L)],.one (.p (.int .i64 0))]
def zi(F:Nat)(ls:List Let)(k:Int):Option (List Pc)->RV
 |none=>qX 4
 |some L=>if (400:Int)<(ls.length:Int)+(lJ k).1\/(100:Int)<((aw Let.aC ls/2:Nat):Int)+(lJ k).2 then qX 7 else kW F (lV L)
section
variable {h:Nat}
end
section
variable {h:Nat}
end
theorem ab4(L:List Pc):(lV L).length=L.length:=by simp[lV,vS]
theorem Qo(l x:List Pc)(k:Nat):(EH l x k).length=l.length+x.length:=by simp only[EH,ff,fX,jy];omega
end
end Go.Abs
