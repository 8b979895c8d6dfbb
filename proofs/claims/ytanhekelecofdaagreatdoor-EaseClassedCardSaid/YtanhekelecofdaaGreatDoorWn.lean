/- A part. -/
import Derived.Test.YtanhekelecofdaaGreatDoorWh
set_option linter.all false
set_option maxRecDepth 100000
set_option maxHeartbeats 16000000
namespace Go.Abs
section
variable{F:Nat}{ls:ai}
def afx{e:b_}(h:e.length=1):∃x0,e=[x0]:=by
 match e,h with
 |[a],_=>exact⟨a,rfl⟩
def afy{e:b_}(h:e.length=2):∃x0 x1,e=[x0,x1]:=by
 match e,h with
 |[a,b],_=>exact⟨a,b,rfl⟩
structure yH (es fs:s_) (k:Nat):Prop where
 len:fs.length=es.length
 at':∀i,i<es.length->fs[i]?=if i<k\/es.length-1-i<k then es[es.length-1-i]? else es[i]?
def yH.start(es:s_):yH es es 0:=⟨rfl,fun i _=>by rw[aC aa]⟩
def yH.step{es fs:s_}{k:Nat}{a b:b_}(h:yH es fs k)(hk:k<es.length-1-k)(ha:es[k]?=some a)(hb:es[es.length-1-k]?=some b):
  fs[k]?=some a/\fs[es.length-1-k]?=some b/\yH es ((fs.set k b).set (es.length-1-k) a) (k+1):=by
 have hlen:=h.len;refine⟨?_,?_,⟨by rw[nA,nA];exact hlen,fun i hi=>?_⟩⟩
 .rw[h.at' k aa,aC aa,ha]
 .rw[h.at' _ aa,aC aa,hb]
 rw[rh,nA];by_cases e1:es.length-1-k=i
 .rw[aG e1,aG aa,aG aa,show es.length-1-i=k by omega,ha]
 rw[aC e1,rh];by_cases e2:k=i
 .subst e2;rw[aG rfl,aG aa,aG aa,hb]
 rw[aC e2,h.at' i hi];by_cases e3:i<k\/es.length-1-i<k
 .rw[aG e3,aG aa]
 rw[aC e3,aC aa]
def yH.done{es fs:s_}{k:Nat}(h:yH es fs k)(hk:¬k<es.length-1-k):fs=es.reverse:=by
 refine xA fun i=>?_;rcases Nat.lt_or_ge i es.length with hi|hi
 .rw[h.at' i hi,List.getElem?_reverse hi];by_cases e:i<k\/es.length-1-i<k
  .rw[aG e]
  rw[aC e,show es.length-1-i=i by omega]
 rw[nZ (by rw[h.len];exact hi),nZ (by rw[mT];exact hi)]
def Iu(id ty z:Nat)(es:s_)(c:C)(aj:aE)(v:V)(ao:aE):Prop:=v=.tup []/\grown id ty z es.reverse (.one c) ao/\Kept (· =id) aj ao
def asH{al:Al}{aj:aE}{id ty:Nat}{es:s_}{c:C}(o:es=[]\/al.ok id=true)(hl:es.length<=1000000)(gG:∀e∈es,e.length=1/\ ∀v∈e,v.norm=v)(h:grown id ty 1 es (.one c) aj):
  ∃v ao,jd S 127 [.one c] al aj v ao/\Iu id ty 1 es c aj v ao:=by
 refine nH c127 (iI rfl) ?_;rcases h with ⟨rfl,h2⟩|⟨aK,g,h2,hC⟩
 .cases h2;have w0:IntKind.i64.wrap (((0:Nat):Int)-1)= -1:=ae;have hz:¬((0:Int)< -1):=ae;simp only[go_sem,i127,w0];refine dG (fun k ak ao=>k=0/\ak 2=vi 0/\ak 3=vi (-1)/\ao=aj) 0 0 (cD _) ?_ ?_
  .simp only[go_sem]
  rintro k ak ao _ ⟨rfl,h2,h3,rfl⟩
  simp only[go_sem,i127_l1,h2,h3,hz];exact⟨rfl,.inl ⟨rfl,rfl⟩,fun _ _=>rfl⟩
 cases h2;have o:=o.resolve_left aK;have w0:=Ac (a:=es.length) aa;simp only[go_sem,i127,w0];refine dG (fun k ak ao=>ak 0=.one (.hsl id g 1 0 es.length)/\ak 2=vi k/\ak 3=vi ((es.length:Int)-1-(k:Int))/\ ∃fs,ao id=(g,some (.arr ty 1 fs))/\yH es fs k/\Kept (· =id) aj ao) 0 es.length (cA _) ?_ ?_
 .simp only[go_sem];refine⟨rfl,af,es,hC,yH.start es,Kept.refl _ _⟩
 rintro k ak ao hk ⟨h0,h2,h3,fs,hF,hI,dQ⟩
 by_cases aB:k<es.length-1-k
 .have e1:((es.length:Int)-1-(k:Int))=((es.length-1-k:Nat):Int):=aa;rw[e1] at h3;have aP:((k:Int)<((es.length-1-k:Nat):Int)):=aa;have w1:=df (n:=k) aa;have w2:IntKind.i64.wrap (((es.length-1-k:Nat):Int)-1)=((es.length:Int)-1-((k+1:Nat):Int)):=by
   rw[Ac aa];omega
  obtain⟨a,ha⟩:=aN (show k<es.length by omega);obtain⟨b,hb⟩:=aN (show es.length-1-k<es.length by omega);obtain⟨fa,fb,xX⟩:=hI.step aB ha hb;obtain⟨la,na⟩:=gG a (aZ ha);obtain⟨lb,nb⟩:=gG b (aZ hb);obtain⟨x0,rfl⟩:=afx la;obtain⟨y0,rfl⟩:=afx lb;have Ow:=na x0 af;have Ox:=nb y0 af;have zw:=hI.len;have Hz:¬(k=es.length-1-k):=aa;have Oi:¬(es.length-1-k=k):=aa;have l1:k<fs.length:=aa;have l2:es.length-1-k<fs.length:=aa;have l3:k<es.length:=aa;have l4:es.length-1-k<es.length:=aa;simp only[go_sem,i127_l1,h0,h2,h3,hF,aP,fa,fb,w1,w2,o,l1,l3,l4,Hz,Ow,Ox,rh];refine⟨aL,_,rfl,xX,?_⟩;exact(dQ.eH rfl _).eH rfl _
 have aP:¬((k:Int)<(es.length:Int)-1-(k:Int)):=aa;simp only[go_sem,i127_l1,h2,h3,aP];refine⟨rfl,?_,dQ⟩;rw[hI.done aB] at hF;exact .inr ⟨by simpa using aK,g,by rw[mT],hF⟩
def asJ{al:Al}{aj:aE}{id ty:Nat}{es:s_}{c:C}(o:es=[]\/al.ok id=true)(hl:es.length<=1000000)(gG:∀e∈es,e.length=2/\ ∀v∈e,v.norm=v)(h:grown id ty 2 es (.one c) aj):
  ∃v ao,jd S 126 [.one c] al aj v ao/\Iu id ty 2 es c aj v ao:=by
 refine nH c126 (iI rfl) ?_;rcases h with ⟨rfl,h2⟩|⟨aK,g,h2,hC⟩
 .cases h2;have w0:IntKind.i64.wrap (((0:Nat):Int)-1)= -1:=ae;have hz:¬((0:Int)< -1):=ae;simp only[go_sem,i126,w0];refine dG (fun k ak ao=>k=0/\ak 2=vi 0/\ak 3=vi (-1)/\ao=aj) 0 0 (cD _) ?_ ?_
  .simp only[go_sem]
  rintro k ak ao _ ⟨rfl,h2,h3,rfl⟩
  simp only[go_sem,i126_l1,h2,h3,hz];exact⟨rfl,.inl ⟨rfl,rfl⟩,fun _ _=>rfl⟩
 cases h2;have o:=o.resolve_left aK;have w0:=Ac (a:=es.length) aa;simp only[go_sem,i126,w0];refine dG (fun k ak ao=>ak 0=.one (.hsl id g 2 0 es.length)/\ak 2=vi k/\ak 3=vi ((es.length:Int)-1-(k:Int))/\ ∃fs,ao id=(g,some (.arr ty 2 fs))/\yH es fs k/\Kept (· =id) aj ao) 0 es.length (cA _) ?_ ?_
 .simp only[go_sem];refine⟨rfl,af,es,hC,yH.start es,Kept.refl _ _⟩
 rintro k ak ao hk ⟨h0,h2,h3,fs,hF,hI,dQ⟩
 by_cases aB:k<es.length-1-k
 .have e1:((es.length:Int)-1-(k:Int))=((es.length-1-k:Nat):Int):=aa;rw[e1] at h3;have aP:((k:Int)<((es.length-1-k:Nat):Int)):=aa;have w1:=df (n:=k) aa;have w2:IntKind.i64.wrap (((es.length-1-k:Nat):Int)-1)=((es.length:Int)-1-((k+1:Nat):Int)):=by
   rw[Ac aa];omega
  obtain⟨a,ha⟩:=aN (show k<es.length by omega);obtain⟨b,hb⟩:=aN (show es.length-1-k<es.length by omega);obtain⟨fa,fb,xX⟩:=hI.step aB ha hb;obtain⟨la,na⟩:=gG a (aZ ha);obtain⟨lb,nb⟩:=gG b (aZ hb);obtain⟨x0,x1,rfl⟩:=afy la;obtain⟨y0,y1,rfl⟩:=afy lb;have Ow:=na x0 af;have X3:=na x1 af;have Ox:=nb y0 af;have X5:=nb y1 af;have zw:=hI.len;have Hz:¬(k=es.length-1-k):=aa;have Oi:¬(es.length-1-k=k):=aa;have l1:k<fs.length:=aa;have l2:es.length-1-k<fs.length:=aa;have l3:k<es.length:=aa;have l4:es.length-1-k<es.length:=aa;simp only[go_sem,i126_l1,h0,h2,h3,hF,aP,fa,fb,w1,w2,o,l1,l3,l4,Hz,Ow,X3,Ox,X5,rh];refine⟨aL,_,rfl,xX,?_⟩;exact(dQ.eH rfl _).eH rfl _
 have aP:¬((k:Int)<(es.length:Int)-1-(k:Int)):=aa;simp only[go_sem,i126_l1,h2,h3,aP];refine⟨rfl,?_,dQ⟩;rw[hI.done aB] at hF;exact .inr ⟨by simpa using aK,g,by rw[mT],hF⟩
def UT{site ty z:Nat}{es:s_}{c:C}{aj:aE}(h:grown site ty z es (.one c) aj):(es=[]/\jy aj (.one c)=[])\/jy aj (.one c)=[site]:=by
 rcases h with ⟨h1,h2⟩|⟨h1,g,h2,h3⟩
 .cases h2;exact .inl ⟨h1,Ln⟩
 cases h2;exact .inr (show j8 aj 6 (.hsl site g z 0 es.length)=[site] from Eo (n:=5) h3)
section
variable {al:Al} {Q:eK} {ak:Env} {aj:aE} {os:g_} {d:w_}
def ado{f id ty z:Nat}{es:s_}{c:C}(Yf:∀ {al:Al} {aj:aE},es=[]\/al.ok id=true->grown id ty z es (.one c) aj->∃v ao,jd S f [.one c] al aj v ao/\Iu id ty z es c aj v ao)(hs:S.sites f=[f])(hg:grown id ty z es (.one c) aj)(oid:al.ok id=true)(hf:al.fs.contains f=true)
  (hK:∀ao,grown id ty z es.reverse (.one c) ao->(∀i,i≠id->ao i=aj i)->RN S al os Q (put ak d (.tup [])) ao):gP S al (.sc f [.one c]) d os Q ak aj:=by
 refine sY (P:=Iu id ty z es c aj) (holds_of ?_ ?_) (Yf ?_ hg) ?_
 .show al.fT ([V.one c].map (jy aj)).flatten=true;rcases UT hg with ⟨_,h⟩|h
  .simp[h,Al.fT]
  simp[h,Al.fT,oid]
 .show(S.sites f).all al.fs.contains=true;rw[hs];simp only[oY,sH,hf,xy]
 .rcases UT hg with ⟨h,_⟩|h
  .exact .inl h
  exact .inr (vg (by simp[h]))
 rintro v ao ⟨rfl,h1,h2⟩
 exact hK ao h1 h2
end
def at0:S.sites 126=[126]:=ah
def atZ:S.sites 127=[127]:=ah
def ZV(ok:fN F ls){x:Nat}(h:x<nD ls):aQ ls x<nD ls:=Vx ok.kD ok.hp h
abbrev uQ(id:Nat):Prop:=jH id=100
structure FE (ls:ai) (idS gS idB gB g8 gF:Nat) (sp:l_) (f:Fc) (cd cp cf:C) (aj:aE):Prop where
 bS:aj idS=(gS,some (.arr 4 1 (bP sp)))
 bB:aj idB=(gB,some (.arr 4 1 (bP (Dd ls))))
 b8:aj 6400000000=(g8,some (.var [.p (.bool false),.p .nils,.p .nils,.p .nils,.p (.bool false)]))
 bF:aj 6400128448=(gF,some (.var [.p (.bool f.ig),cd,cp,cf,.p (.bool f.outer)]))
 gd:grown 6400512256 3 1 (nP f.cG) (.one cd) aj
 gp:grown 6400896192 El 2 (qp f.places) (.one cp) aj
 gf:grown 6400896448 3 1 (nP f.y7) (.one cf) aj
def ajs(ok:fN F ls){f:Fc}{x k:Nat}(hx:x<nD ls)(h:f.cG.length<=k/\f.places.length<=k*(2*F+2)/\f.y7.length<=k*(2*F+2)):(f.add F ls x).cG.length<=k+1/\(f.add F ls x).places.length<=(k+1)*(2*F+2)/\(f.add F ls x).y7.length<=(k+1)*(2*F+2):=by
 obtain⟨i1,i2,i3⟩:=h;rw[Nat.succ_mul];unfold Fc.add;by_cases h:x<2*ls.length
 .rw[aG h];simp only[gJ,dL,fv];exact⟨aa,aa,aa⟩
 rw[aC h];have hj:(x-2*ls.length)/2<(aI ls).length:=by unfold nD at hx;omega
 have l1:=agP ok hj;have l2:=agO ok hj;refine⟨by simp only;omega,?_,?_⟩
 .simp only[gJ];split<;>(try rw[mT])<;>omega
 simp only[gJ];split<;>(try rw[mT])<;>omega
def amy{al:Al}(ok:fN F ls)(hF:F<=1000)(okf:∀id,uQ id->al.ok id=true){idS gS idB gB g8 gF d:Nat}(oS:al.ok idS=true)(nS:¬uQ idS)(nB:¬uQ idB)(nSB:idS≠idB)(f1:al.fs.contains 126=true)(f2:al.fs.contains 127=true)(hd:d<2*ls.length){Q:eK}:
  ∀(fuel k x:Nat) (iN:l_) (f:Fc) (ak:Env) (aj:aE) (cd cp cf:C),ak 0=.one (.p (nL F ls))->ak 2=.one (.hsl idS gS 1 0 (2*ls.length))->ak 8=.one (.bt 6400000000 g8 0)->ak 9=vi ls.length->ak 10=vi (aI ls).length->ak 11=.one (.bt 6400128448 gF 0)->ak 12=vi x->
   FE ls idS gS idB gB g8 gF (iN.take (2*ls.length)) f cd cp cf aj->iN.length=nD ls->x<nD ls->Inv (aQ ls) (nD ls) d iN x->Aa iN<fuel->(k+fuel<=5000000)->(f.cG.length<=k/\f.places.length<=k*(2*F+2)/\f.y7.length<=k*(2*F+2))->
   (∀aH ao Dg mF Dh,aH 8=ak 8->aH 11=ak 11->FE ls idS gS idB gB g8 gF ((fK (aQ ls) fuel x iN).2.take (2*ls.length)) ((fK (aQ ls) fuel x iN).1.foldl (Fc.add F ls) f) Dg mF Dh ao->(∀id,¬(uQ id\/id=idS)->ao id=aj id)->Q .normal aH ao)->
   W S al (.loop i100_l1) (rV 0 Q) ak aj:=by
 have hl:=ok.hl;have iC:(aI ls).length<=1000000:=oZ (xN ls ls.length) hl;have gH:nD ls<=4000000:=by unfold nD;omega
 have m2:=uZ (a:=ls.length) aa;have k0:al.ok 6400000000=true:=okf _ rfl;have kF:al.ok 6400128448=true:=okf _ rfl;have kd0:al.ok 6400512192=true:=okf _ rfl;have kd:al.ok 6400512256=true:=okf _ rfl;have kp:al.ok 6400896192=true:=okf _ rfl;have kf:al.ok 6400896448=true:=okf _ rfl;have kr1:al.ok 6400640128=true:=okf _ rfl;have kr2:al.ok 6400640129=true:=okf _ rfl;have hm:=maps ok;intro fuel
 induction fuel with
 |zero=>intro k x iN f ak aj cd cp cf _ _ _ _ _ _ _ _ _ _ _ h;omega
 |succ fuel ih=>
  intro k x iN f ak aj cd cp cf h0 h2 h8 h9 ek gD jA hB Kc FV hi hu hk hlen hq;have hle:=hm.le;obtain⟨l1,l2,l3⟩:=hlen;have anL:k*(2*F+2)<=5000000*2002:=Nat.mul_le_mul aa aa;have Kq:=ajs ok FV ⟨l1,l2,l3⟩;unfold fK at hq;have nSi:∀ {a:Nat},uQ a->a≠idS:=fun h e=>nS (e▸h);have nBi:∀ {a:Nat},uQ a->a≠idB:=fun h e=>nB (e▸h);have nF:¬(6400128448=idS):=nSi rfl;refine sJ ?_;cases hs:iN.getD x true with
  |true=>
   have hxd:=hi.i4 hs;have aB:x<2*ls.length:=aa;have aP:((x:Int)<((2*ls.length:Nat):Int)):=aa;rw[hs] at hq;simp only[if_true] at hq;have hb:(iN.take (2*ls.length))[x]?=some true:=by
    have h1:=ZG aB (show 2*ls.length<=iN.length by omega);rw[show sn iN x=true from hs,dK] at h1;have yv:x<(iN.take (2*ls.length)).length:=by rw[iH];omega
    obtain⟨b,hb⟩:=aN yv;rw[hb] at h1 |-;exact congrArg some h1
   have kV:=tR hb;simp only[go_sem,i100_l1,h0,h2,h9,jA,m2,aP,aB,hB.bS,kV,oS];exact hq _ _ cd cp cf (by simp only[go_sem]) (by simp only[go_sem]) hB (fun _ _=>rfl)
  |false=>
   have DY:iN[x]?=some false:=by
    rw[dK] at hs;cases h1:iN[x]? with
    |none=>rw[h1] at hs;cases hs
    |some b=>rw[h1] at hs;exact congrArg some hs
   have FR:=Pt DY;have pt:=ab4 ok x (by unfold nD at FV;exact FV);have di:=hi.step hm Kc FV hs;rw[hs] at hq;simp only[dR,if_false,Bt] at hq;by_cases zo:x<2*ls.length
   .have aP:((x:Int)<((2*ls.length:Nat):Int)):=aa;have hb:(iN.take (2*ls.length))[x]?=some false:=by rw[l8,aG zo];exact DY
    have kV:=tR hb;have iF:=Jf (iN.take (2*ls.length)) x true;rw[ail] at iF;have Kd:f.add F ls x={f with cG:=f.cG++[x]}:=by unfold Fc.add;rw[aG zo]
    simp only[go_sem,i100_l1,h2,h9,gD,jA,m2,aP,zo,hB.bS,hB.bF,kV,iF,oS,kF,kd0,nF];refine TG (site:=6400512256) (id:=6400512256) (bytes:=8) (xs:=[[.int .i64 (x:Int)]]) (rd:=[6400512192]) (by simp[kd,kd0]) (hB.gd.of_eq ((bn ae).trans (bn (nSi rfl)))) (by simp[gb,aU]) (.inl rfl) (by simp only[cU,dL,fv];omega) fun c bN hc bR=>?_;have Kh:∀i,i≠6400512192->i≠6400512256->i≠idS->bN i=aj i:=fun i a b c=>(bR i b b).trans ((bn a).trans (bn c))
    have an6:=(bR idS (nSi rfl).symm (nSi rfl).symm).trans ((bn (nSi rfl).symm).trans Bp);have GH:=(Kh 6400128448 ae ae (nSi rfl)).trans hB.bF;simp only[go_sem,GH,h0,gD,jA,kF,s97,Nt pt];refine ih (k+1) (aQ ls x) (iN.set x true) (f.add F ls x) _ _ c cp cf ?_ ?_ ?_ ?_ ?_ ?_ ?_ ?_ (by rw[nA];exact Kc) (ZV ok FV) di aa aa Kq ?_
    .simp only[go_sem,h0]
    .simp only[go_sem,h2]
    .simp only[go_sem,h8]
    .simp only[go_sem,h9]
    .simp only[go_sem,ek]
    .simp only[go_sem,gD]
    .simp only[go_sem]
    .rw[Kd];refine⟨?_,?_,?_,Bp,?_,?_,?_⟩
     .exact(bn (nSi rfl).symm).trans an6
     .exact(bn (nBi rfl).symm).trans ((Kh _ (nBi rfl).symm (nBi rfl).symm nSB.symm).trans hB.bB)
     .exact(bn ae).trans ((Kh _ ae ae (nSi rfl)).trans hB.b8)
     .exact(KZ _ _▸hc.of_eq (bn ae))
     .exact(hB.gp.of_eq (Kh _ ae ae (nSi rfl))).of_eq (bn ae)
     exact(hB.gf.of_eq (Kh _ ae ae (nSi rfl))).of_eq (bn ae)
    intro aH ao Dg mF Dh q8 F6 zh dQ;refine hq aH ao Dg mF Dh (by rw[q8];simp only[go_sem]) (by rw[F6];simp only[go_sem]) zh fun id hn=>?_;have a:∀y,uQ y->id≠y:=fun y hy e=>hn (.inl (e▸hy));exact(dQ id hn).trans ((bn (a _ rfl)).trans (Kh id (a _ rfl) (a _ rfl) fun e=>hn (.inr e)))
   have hj:(x-2*ls.length)/2<(aI ls).length:=by unfold nD at FV;omega
   have uN:=asL ok hF hj;have lP:=agP ok hj;have lF:=agO ok hj;have yg:¬((x:Int)<((2*ls.length:Nat):Int)):=aa;have ws:=aac (a:=x) (b:=2*ls.length) aa aa;have wq:=wrap_small (n:=(x-2*ls.length)/2) aa;have w2:=LU (a:=(aI ls).length) aa aa;have TP:((((x-2*ls.length)/2:Nat):Int)==(((aI ls).length-1:Nat):Int))=decide ((x-2*ls.length)/2+1=(aI ls).length):=by
    by_cases h:(x-2*ls.length)/2+1=(aI ls).length
    .rw[xH h];simp;omega
    rw[xG h];simp;omega
   have qM:(f.add F ls x).outer=(f.outer||decide ((x-2*ls.length)/2+1=(aI ls).length)):=by unfold Fc.add;rw[aC zo]
   have Xw:(f.add F ls x).ig=f.ig:=by unfold Fc.add;rw[aC zo]
   have XF:(f.add F ls x).cG=f.cG:=by unfold Fc.add;rw[aC zo]
   have HF:(f.add F ls x).places=f.places++(if x%2=0 then qX F ls ((x-2*ls.length)/2) else (qX F ls ((x-2*ls.length)/2)).reverse):=by unfold Fc.add;rw[aC zo]
   have Oc:(f.add F ls x).y7=f.y7++(if x%2=0 then Ek F ls ((x-2*ls.length)/2) else (Ek F ls ((x-2*ls.length)/2)).reverse):=by unfold Fc.add;rw[aC zo]
   generalize f.add F ls x=f' at qM Xw XF HF Oc hq Kq;have qk:S.lone 6400640128=false:=ah;have sc1:∀l:v_,((qp l).all fun e=>e.all PV.scalar)=true:=fun l=>by simp[PV.scalar]
   have sc2:∀l:a_,((nP l).all fun e=>e.all PV.scalar)=true:=fun l=>by simp[PV.scalar]
   have hnP:∀l:v_,∀e∈qp l,e.length=2/\ ∀v∈e,v.norm=v:=fun l e he=>by obtain⟨a,_,rfl⟩:=cV.1 he;exact⟨rfl,fun v hv=>by simp at hv;rcases hv with rfl|rfl<;>rfl⟩
   have hnF:∀l:a_,∀e∈nP l,e.length=1/\ ∀v∈e,v.norm=v:=fun l e he=>by obtain⟨a,_,rfl⟩:=cV.1 he;exact⟨rfl,fun v hv=>by simp at hv;rcases hv with rfl;rfl⟩
   have tG:S.shared 126=true:=ah;have shI:S.shared 127=true:=ah;have oN:(iN.set x true).take (2*ls.length)=iN.take (2*ls.length):=aik aa;generalize qX F ls ((x-2*ls.length)/2)=PP at*;generalize Ek F ls ((x-2*ls.length)/2)=FF at*;simp only[go_sem,i100_l1,h0,h9,jA,m2,yg,ws,wq,dZ,eQ,s125];refine anb (by simp[kr1,kr2]) uN qk (sc1 _) (sc2 _) fun c e cZ hc he hb=>?_;by_cases eO:x%2=0
   .have Kx:((x:Int).tmod 2==1)=false:=by rw[jI,eO];rfl
    rw[aG eO] at HF Oc;have hP:=hc;have hE:=he;have DD:∀i,i≠6400640128->i≠6400640129->cZ i=aj i:=hb;have bFN:=(DD 6400128448 ae ae).trans hB.bF;simp only[go_sem,dZ,Kx,bFN,gD,jA,kF];obtain⟨rP,hxP,OH⟩:=hP.elems;refine GQ (site:=6400896192) (id:=6400896192) (bytes:=16) (by rcases OH with rfl|rfl<;>simp[kp,kr1]) (hB.gp.of_eq (DD _ ae ae)) hxP hP.aw (by simp only[cU];omega) fun c2 kN r1 u1 qJ oF k9=>?_
    have GH:=(oF 6400128448 ae ae).trans bFN;simp only[go_sem,GH,gD,kF];obtain⟨rE,hxE,OG⟩:=(hE.of_eq (oF _ ae ae)).elems;refine GQ (site:=6400896448) (id:=6400896448) (bytes:=8) (by rcases OG with rfl|rfl<;>simp[kf,kr2]) (hB.gf.of_eq ((oF _ ae ae).trans (DD _ ae ae))) hxE hE.aw (by simp only[cU];omega) fun c3 De r2 u2 NS Fz wS=>?_
    have Mo:=(Fz 6400128448 ae ae).trans GH;have dV:∀i,i≠6400640128->i≠6400640129->i≠6400896192->i≠6400896448->De i=aj i:=fun i a b c d=>(Fz i d d).trans ((oF i c c).trans (DD i a b));have XA:grown 6400896192 El 2 (qp f'.places) (.one c2) De:=by rw[HF,Li];exact qJ.of_eq (Fz _ ae ae)
    have XB:grown 6400896448 3 1 (nP f'.y7) (.one c3) De:=by rw[Oc,KZ];exact NS
    clear qJ NS;cases ho:f.outer;all_goals
     rw[ho] at Mo;simp only[go_sem,Mo,h0,ek,gD,jA,kF,w2,TP,s97,Nt pt];refine⟨?_,?_⟩
     .rcases OH with rfl|rfl<;>rcases OG with rfl|rfl<;>rcases k9 with ⟨rfl,rfl⟩|⟨rfl,rfl⟩|⟨rfl,rfl⟩<;>rcases wS with ⟨rfl,rfl⟩|⟨rfl,rfl⟩|⟨rfl,rfl⟩<;>kernel_rfl
     refine ih (k+1) (aQ ls x) (iN.set x true) f' _ _ cd c2 c3 ?_ ?_ ?_ ?_ ?_ ?_ ?_ ?_ (by rw[nA];exact Kc) (ZV ok FV) di aa aa Kq ?_
     .simp only[go_sem,h0]
     .simp only[go_sem,h2]
     .simp only[go_sem,h8]
     .simp only[go_sem,h9]
     .simp only[go_sem,ek]
     .simp only[go_sem,gD]
     .simp only[go_sem]
     .rw[oN];refine⟨?_,?_,?_,?_,?_,?_,?_⟩
      .exact(bn (nSi rfl).symm).trans ((bn (nSi rfl).symm).trans ((bn (nSi rfl).symm).trans ((dV _ (nSi rfl).symm (nSi rfl).symm (nSi rfl).symm (nSi rfl).symm).trans hB.bS)))
      .exact(bn (nBi rfl).symm).trans ((bn (nBi rfl).symm).trans ((bn (nBi rfl).symm).trans ((dV _ (nBi rfl).symm (nBi rfl).symm (nBi rfl).symm (nBi rfl).symm).trans hB.bB)))
      .exact(bn ae).trans ((bn ae).trans ((bn ae).trans ((dV _ ae ae ae ae).trans hB.b8)))
      .rw[Bp,Xw,qM,ho];rfl
      .rw[XF];exact hB.gd.of_eq ((bn ae).trans ((bn ae).trans ((bn ae).trans (dV _ ae ae ae ae))))
      .exact XA.of_eq ((bn ae).trans ((bn ae).trans (bn ae)))
      exact XB.of_eq ((bn ae).trans ((bn ae).trans (bn ae)))
     intro aH ao Dg mF Dh q8 F6 zh dQ;refine hq aH ao Dg mF Dh (by rw[q8];simp only[go_sem]) (by rw[F6];simp only[go_sem]) zh fun id hn=>?_;have a:∀y,uQ y->id≠y:=fun y hy e=>hn (.inl (e▸hy));exact(dQ id hn).trans ((bn (a _ rfl)).trans ((bn (a _ rfl)).trans ((bn (a _ rfl)).trans (dV id (a _ rfl) (a _ rfl) (a _ rfl) (a _ rfl)))))
   have Kx:((x:Int).tmod 2==1)=true:=by rw[jI,show x%2=1 by omega];rfl
   rw[aC eO] at HF Oc;simp only[go_sem,dZ,Kx,jA,tG];refine ado (f:=126) (fun o h=>asJ o (by simp only[cU];omega) (hnP _) h) at0 hc kr1 f1 fun bN iZ bR=>?_;simp only[go_sem,shI];refine ado (f:=127) (fun o h=>asH o (by simp only[cU];omega) (hnF _) h) atZ (he.of_eq (bR _ ae)) kr2 f2 fun je he1 lV=>?_;have hP:grown 6400640128 El 2 (qp PP.reverse) (.one c) je:=by rw[qp,List.map_reverse];exact iZ.of_eq (lV _ ae)
   have hE:grown 6400640129 3 1 (nP FF.reverse) (.one e) je:=by rw[nP,List.map_reverse];exact he1
   have DD:∀i,i≠6400640128->i≠6400640129->je i=aj i:=fun i a b=>(lV i b).trans ((bR i a).trans (hb i a b));have bFN:=(DD 6400128448 ae ae).trans hB.bF;simp only[go_sem,bFN,gD,kF];obtain⟨rP,hxP,OH⟩:=hP.elems;refine GQ (site:=6400896192) (id:=6400896192) (bytes:=16) (by rcases OH with rfl|rfl<;>simp[kp,kr1]) (hB.gp.of_eq (DD _ ae ae)) hxP hP.aw (by simp only[cU,mT];omega) fun c2 kN r1 u1 qJ oF k9=>?_
   have GH:=(oF 6400128448 ae ae).trans bFN;simp only[go_sem,GH,gD,kF];obtain⟨rE,hxE,OG⟩:=(hE.of_eq (oF _ ae ae)).elems;refine GQ (site:=6400896448) (id:=6400896448) (bytes:=8) (by rcases OG with rfl|rfl<;>simp[kf,kr2]) (hB.gf.of_eq ((oF _ ae ae).trans (DD _ ae ae))) hxE hE.aw (by simp only[cU,mT];omega) fun c3 De r2 u2 NS Fz wS=>?_
   have Mo:=(Fz 6400128448 ae ae).trans GH;have dV:∀i,i≠6400640128->i≠6400640129->i≠6400896192->i≠6400896448->De i=aj i:=fun i a b c d=>(Fz i d d).trans ((oF i c c).trans (DD i a b));have XA:grown 6400896192 El 2 (qp f'.places) (.one c2) De:=by rw[HF,Li];exact qJ.of_eq (Fz _ ae ae)
   have XB:grown 6400896448 3 1 (nP f'.y7) (.one c3) De:=by rw[Oc,KZ];exact NS
   clear qJ NS;cases ho:f.outer;all_goals
    rw[ho] at Mo;simp only[go_sem,Mo,h0,ek,gD,jA,kF,w2,TP,s97,Nt pt];refine⟨?_,?_⟩
    .rcases OH with rfl|rfl<;>rcases OG with rfl|rfl<;>rcases k9 with ⟨rfl,rfl⟩|⟨rfl,rfl⟩|⟨rfl,rfl⟩<;>rcases wS with ⟨rfl,rfl⟩|⟨rfl,rfl⟩|⟨rfl,rfl⟩<;>kernel_rfl
    refine ih (k+1) (aQ ls x) (iN.set x true) f' _ _ cd c2 c3 ?_ ?_ ?_ ?_ ?_ ?_ ?_ ?_ (by rw[nA];exact Kc) (ZV ok FV) di aa aa Kq ?_
    .simp only[go_sem,h0]
    .simp only[go_sem,h2]
    .simp only[go_sem,h8]
    .simp only[go_sem,h9]
    .simp only[go_sem,ek]
    .simp only[go_sem,gD]
    .simp only[go_sem]
    .rw[oN];refine⟨?_,?_,?_,?_,?_,?_,?_⟩
     .exact(bn (nSi rfl).symm).trans ((bn (nSi rfl).symm).trans ((bn (nSi rfl).symm).trans ((dV _ (nSi rfl).symm (nSi rfl).symm (nSi rfl).symm (nSi rfl).symm).trans hB.bS)))
     .exact(bn (nBi rfl).symm).trans ((bn (nBi rfl).symm).trans ((bn (nBi rfl).symm).trans ((dV _ (nBi rfl).symm (nBi rfl).symm (nBi rfl).symm (nBi rfl).symm).trans hB.bB)))
     .exact(bn ae).trans ((bn ae).trans ((bn ae).trans ((dV _ ae ae ae ae).trans hB.b8)))
     .rw[Bp,Xw,qM,ho];rfl
     .rw[XF];exact hB.gd.of_eq ((bn ae).trans ((bn ae).trans ((bn ae).trans (dV _ ae ae ae ae))))
     .exact XA.of_eq ((bn ae).trans ((bn ae).trans (bn ae)))
     exact XB.of_eq ((bn ae).trans ((bn ae).trans (bn ae)))
    intro aH ao Dg mF Dh q8 F6 zh dQ;refine hq aH ao Dg mF Dh (by rw[q8];simp only[go_sem]) (by rw[F6];simp only[go_sem]) zh fun id hn=>?_;have a:∀y,uQ y->id≠y:=fun y hy e=>hn (.inl (e▸hy));exact(dQ id hn).trans ((bn (a _ rfl)).trans ((bn (a _ rfl)).trans ((bn (a _ rfl)).trans (dV id (a _ rfl) (a _ rfl) (a _ rfl) (a _ rfl)))))
structure cE (F:Nat) (ls:ai):Prop where
 ok:fN F ls
 len:ls.length<=400
 cr:aq Let.aD ls<=200
 fing:F<=40
 ne:ls≠[]
 first:∃l,ls[0]?=some l/\l.aF=true
 even:aq Let.aF ls%2=0
 bad:∀l∈ls,dS F l=false
 chk:cX F ls=0
 nw:mO ls=aq Let.aF ls+aq Let.aD ls/2+2
def pM{f:Int}(h:cX f ls=0)(aK:ls≠[]):∃F:Nat,f=(F:Int)/\cE F ls:=by
 have h0:=h;unfold cX at h;by_cases h1:400<ls.length\/200<aq Let.aD ls
 .rw[aG h1] at h;cases h
 rw[aC h1] at h;by_cases h2:f<0\/40<f
 .rw[aG h2] at h;cases h
 rw[aC h2,aC aK] at h;cases hv:mz f ls with
 |false=>rw[hv] at h;simp at h
 |true=>
  obtain⟨F,rfl⟩:=vV (show 0<=f by omega);refine⟨F,rfl,?_⟩;unfold mz at hv;simp only[cJ] at hv;obtain⟨⟨⟨v1,v2⟩,v3⟩,v4⟩:=hv;obtain⟨dN,mq,fg⟩:=YJ.1 v3;have ya:∀l∈ls,dS F l=false:=fun l hl=>by simpa using IF.1 dN l hl
  have hg:rZ F ls:=fun l hl hp=>((sC hp).1 (ya l hl)).1.1.1;obtain⟨g1,g2⟩:=(Pe hg).1 mq;obtain⟨l0,uL⟩:=aN (jQ.2 aK);rw[uL] at v1;exact⟨⟨aa,⟨g1,g2⟩,fg,fun l hl=>wg (ya l hl)⟩,aa,aa,aa,aK,⟨l0,uL,v1⟩,by simpa using v2,ya,h0,by simpa using v4⟩
def acI(F:Nat)(ls:ai)(idS gS:Nat)(x:Nat)(iN:l_)(aj:aE)(v:V)(ao:aE):Prop:=
 ∃f cd cp cf,f=((fK (aQ ls) (nD ls+1) x iN).1).foldl (Fc.add F ls) (Fc.new ls x)/\v=.agg [.p (.bool f.ig),cd,cp,cf,.p (.bool f.outer)]/\ao idS=(gS,some (.arr 4 1 (bP ((fK (aQ ls) (nD ls+1) x iN).2.take (2*ls.length)))))/\
  grown 6400512256 3 1 (nP f.cG) (.one cd) ao/\grown 6400896192 El 2 (qp f.places) (.one cp) ao/\grown 6400896448 3 1 (nP f.y7) (.one cf) ao/\Kept (fun id=>uQ id\/id=idS) aj ao
def amA{al:Al}{F:Nat}{ls:ai}(ok:fN F ls)(hF:F<=1000)(okf:∀id,uQ id->al.ok id=true){idS gS idB gB x:Nat}(oS:al.ok idS=true)(oB:al.ok idB=true)(nS:¬uQ idS)(nB:¬uQ idB)(nSB:idS≠idB)(f1:al.fs.contains 126=true)(f2:al.fs.contains 127=true){iN:l_}{aj:aE}
  (hx:x<2*ls.length) (Kc:iN.length=nD ls) (cK:Mb (aQ ls) (nD ls) iN) (hs:iN.getD x true=false) (bS:aj idS=(gS,some (.arr 4 1 (bP (iN.take (2*ls.length)))))) (bB:aj idB=(gB,some (.arr 4 1 (bP (Dd ls))))):
  ∃v ao,jd S 100 [.one (.p (nL F ls)),vi x,.one (.hsl idS gS 1 0 (2*ls.length)),.one (.hsl idB gB 1 0 ls.length)] al aj v ao/\acI F ls idS gS x iN aj v ao:=by
 have hl:=ok.hl;have iC:(aI ls).length<=ls.length:=xN ls ls.length;have gH:nD ls<=4000000:=by unfold nD;omega
 have k0:al.ok 6400000000=true:=okf _ rfl;have kF:al.ok 6400128448=true:=okf _ rfl;have wq:=wrap_small (n:=x/2) aa;have wX:x/2<ls.length:=aa;have anK:=tR (aki wX);have nSi:∀ {a:Nat},uQ a->a≠idS:=fun h e=>nS (e▸h);have nBi:∀ {a:Nat},uQ a->a≠idB:=fun h e=>nB (e▸h);have nB0:¬(idB=6400000000):=fun e=>nBi rfl e.symm
 have hul:=LQ iN;refine nH c100 (iI rfl) ?_;simp only[go_sem,i100,bB,nB0,k0,kF,oB,dZ,eQ,wq,wX,anK];refine⟨aL,?_⟩;refine amy ok hF okf (idS:=idS) (gS:=gS) (idB:=idB) (gB:=gB) (g8:=(aj 6400000000).1+1) (gF:=(aj 6400128448).1+1) (d:=x) oS nS nB nSB f1 f2 hx (nD ls+1) 0 x iN (Fc.new ls x) _ _ (.p .nils) (.p .nils) (.p .nils) ?_ ?_ ?_ ?_ ?_ ?_ ?_ ?_ Kc (by unfold nD;omega) (Inv.start cK hs) aa aa ⟨cD _,cA _,cA _⟩ ?_
 .simp only[go_sem]
 .simp only[go_sem]
 .simp only[go_sem]
 .simp only[go_sem]
 .simp only[go_sem]
 .simp only[go_sem]
 .simp only[go_sem]
 .refine⟨?_,?_,?_,?_,grown.nil,grown.nil,grown.nil⟩
  .simp only[bn (nSi (a:=6400000000) rfl).symm,bn (nSi (a:=6400128448) rfl).symm,bS]
  .simp only[bn (nBi (a:=6400000000) rfl).symm,bn (nBi (a:=6400128448) rfl).symm,bB]
  .simp only[go_sem]
  simp only[go_sem,Fc.new]
 intro aH ao Dg mF Dh q8 F6 zh dQ;simp only[go_sem] at q8 F6;have h8:=zh.b8;have hf:=zh.bF;simp only[go_sem,i100_r2,q8,F6,h8,hf,k0,kF];refine⟨_,Dg,mF,Dh,rfl,rfl,?_,?_,?_,?_,fun id hn=>?_⟩
 .exact(bn (nSi rfl).symm).trans zh.bS
 .exact zh.gd.of_eq (bn ae)
 .exact zh.gp.of_eq (bn ae)
 .exact zh.gf.of_eq (bn ae)
 have a:∀y,uQ y->id≠y:=fun y hy e=>hn (.inl (e▸hy));refine(bn (a _ rfl)).trans ((dQ id hn).trans ?_);simp only[bn (a 6400000000 rfl),bn (a 6400128448 rfl)]
def za{s1 t1 z1:Nat}{es:s_}{c:C}{x:PV}{aj:aE}(h:grown s1 t1 z1 es (.one c) aj):j6 aj (.tup [.one c,.one (.p x)])=some (.tup [.one (bh t1 z1 es),.one (.p x)]):=by obtain⟨c',o,hc,h2,h3⟩:=h.kJ;cases hc;rcases h3 with rfl|rfl<;>simp[j6,uH,wD,pO,nU,h2,(show Go.Abs.kJ aj (.p x)=some (.p x,[],[]) from rfl),apart,xn,uk,CF]
def Zt{aj:aE}{id g g0 z o l ty sz:Nat}{es:s_}(h:aj id=(g0,some (.arr ty sz es))):jy aj (.one (.hsl id g z o l))=[id]:=(Eo h:j8 aj 6 (.hsl id g z o l)=[id])
def atW:(S.sites 100).contains 100=true:=ah
def atX:(S.sites 100).contains 126=true:=ah
def atY:(S.sites 100).contains 127=true:=ah
def aij{S:l_}{n k:Nat}{b:Bool}(hk:k<n)(hn:n<=S.length)(h:S.getD k true=b):(S.take n)[k]?=some b:=by rw[l8,aG hk];rw[dK] at h;obtain⟨c,hc⟩:=aN (show k<S.length by omega);rw[hc] at h |-;exact congrArg some h
def amD(g:cE F ls):aO S 88 [fe F ls] (.tup [.one (bh BE 5 (uF (ff F ls))),.one (.p (.int .i64 0))]):=by
 have ok:=g.ok;have hl:=ok.hl;have hF:F<=1000:=by have:=g.fing;omega
 have iC:(aI ls).length<=ls.length:=xN ls ls.length;have hlen:=g.len;have gH:nD ls<=4000000:=by unfold nD;omega
 have h2n:2*ls.length<=nD ls:=by unfold nD;omega
 have pr:=UU F ls hl;rw[Pg g.chk,aC g.ne,tL] at pr;have pb:=akk ok;have hm:=maps ok;have m2:=uZ (a:=ls.length) aa;have lf:2*ls.length<=140737488355328:=aa;have DV:List.replicate (2*ls.length) [PV.bool false]=bP ((eB (aQ ls) (nD ls) 0).2.take (2*ls.length)):=by show _=bP ((List.replicate (nD ls) false).take (2*ls.length));rw[List.take_replicate,Aj h2n];simp
 have hLB:∀aj:aE,land aj [] 5632384064 ((RV.one (.own 4 1 (bP (Dd ls)))).iu (S.lone 5632384064))=some (.one (.hsl 5632384064 ((aj 5632384064).1+1) 1 0 ls.length),[(5632384064,((aj 5632384064).1+1,some (.arr 4 1 (bP (Dd ls)))))]):=by intro aj;rw[show S.lone 5632384064=false by kernel_rfl];show some (V.one (.hsl 5632384064 ((aj 5632384064).1+1) 1 0 (bP (Dd ls)).length),_)=_;rw[show(bP (Dd ls)).length=ls.length by simp[vh]];rfl
 have jw:S.shared 100=true:=ah;refine bY c88 ?_;simp only[go_sem,i88,s40,aY pr bK,s99,aY pb (hLB _),m2,lf,DV];refine dG (fun k ak aj=>ak 4=.one (.p (nL F ls))/\ak 7=.one (.hsl 5632320448 1 1 0 (2*ls.length))/\ak 8=.one (.hsl 5632384064 1 1 0 ls.length)/\ak 29=vi ((2*ls.length:Nat):Int)/\ak 30=vi k/\
   aj 5632320448=(1,some (.arr 4 1 (bP ((eB (aQ ls) (nD ls) k).2.take (2*ls.length)))))/\aj 5632384064=(1,some (.arr 4 1 (bP (Dd ls))))/\
   ∃vo,ak 6=.one vo/\grown 5632704448 BE 5 (uF ((eB (aQ ls) (nD ls) k).1.map (mf F ls))) (.one vo) aj) 0 (2*ls.length) (cA _) ?_ ?_
 .simp only[go_sem];first|exact⟨rfl,rfl,rfl,_,rfl,.inl ⟨rfl,rfl⟩⟩|exact⟨rfl,rfl,_,rfl,.inl ⟨rfl,rfl⟩⟩|exact⟨rfl,_,rfl,.inl ⟨rfl,rfl⟩⟩|exact⟨rfl,rfl,rfl,rfl,_,rfl,.inl ⟨rfl,rfl⟩⟩
 rintro k ak aj hk ⟨h4,h7,h8,NC,ND,bS,bB,vo,h6,go⟩
 by_cases aB:k<2*ls.length
 .have aP:((k:Int)<((2*ls.length:Nat):Int)):=aa;have w1:=df (n:=k) aa;obtain⟨cK,_⟩:=VD hm k aa;have XR:=IA (aQ ls) (nD ls) k;have FL:=Px (aQ ls) (nD ls) k;have di:=Ab (aQ ls) (nD ls) k;generalize hw:eB (aQ ls) (nD ls) k=st at*;obtain⟨o,iN⟩:=st;simp only at cK XR FL bS go;unfold vT at di;cases hs:iN.getD k true with
  |true=>simp only[hs,if_true] at di;have hb:=tR (aij aB aa hs);simp only[go_sem,i88_l1,h4,h6,h7,h8,NC,ND,bS,bB,aB,aP,hb,w1,di];exact⟨vo,rfl,go⟩
  |false=>
   simp only[hs,dR,if_false,XR] at di;have hb:=tR (aij aB aa hs);obtain⟨t,ht⟩:=aiD (aQ ls) (k:=nD ls) hs;have zx:((fK (aQ ls) (nD ls+1) k iN).1).foldl (Fc.add F ls) (Fc.new ls k)=mf F ls (fK (aQ ls) (nD ls+1) k iN).1:=by unfold mf;rw[ht];rfl
   have fD:=amz (F:=F) (t:=t) aB;rw[<- ht] at fD;simp only[go_sem,i88_l1,h4,h6,h7,h8,NC,ND,bS,bB,aB,aP,hb,jw];have aed:jy aj (.one (.hsl 5632320448 1 1 0 (2*ls.length)))=[5632320448]:=Zt bS;have OI:jy aj (.one (.hsl 5632384064 1 1 0 ls.length))=[5632384064]:=Zt bB;refine sY (P:=acI F ls 5632320448 1 k iN aj) Ba (amA ok hF (fun id h=>vf (by rw[h];exact atW)) (vg ?_) (vg ?_) ae ae ae ?_ ?_ aB XR cK hs bS bB) ?_
   .simp only[eD,mS,aed,OI];simp
   .simp only[eD,mS,aed,OI];simp
   .exact atX
   .exact atY
   rintro v cZ ⟨f,cd,cp,cf,hf,rfl,bS1,gd,gp,gf,dQ⟩
   rw[zx] at hf;rw[<- hf] at fD;have Mn:=(dQ 5632384064 ae).trans bB;have go1:=go.of_eq (dQ 5632704448 ae);have qM:uF (o.map (mf F ls))++[f.ps]=uF ((eB (aQ ls) (nD ls) (k+1)).1.map (mf F ls)):=by rw[di,hf];simp
   have hS2:(eB (aQ ls) (nD ls) (k+1)).2=(fK (aQ ls) (nD ls+1) k iN).2:=by rw[di]
   have aoz:(uF (o.map (mf F ls))).length<=k:=by simpa using FL
   generalize uF (o.map (mf F ls))=outs at go1 qM aoz;have gd0:=gd;rcases gd with ⟨e,_⟩|⟨_,gg,e,hbd⟩
   .simp at e;exact absurd e fD
   cases e;simp only[go_sem];rw[cU] at gd0;obtain⟨fr,hx,BP,Hu⟩:=al0 (aj:=eH cZ 5632704384 ((cZ 5632704384).1+1,some (.jg BE 5 [[.p (.bool f.ig),.hsl 6400512256 gg 1 0 f.cG.length,cp,cf,.p (.bool f.outer)]]))) (s:=5632704384) Bp (gd0.of_eq (bn ae)) (gp.of_eq (bn ae)) (gf.of_eq (bn ae));have nf:∀i,i≠6400512256->i≠6400896192->i≠6400896448->i∉fr:=fun i a b c h=>by
    rcases Hu i h with h|h|h
    .exact a h
    .exact b h
    exact c h
   refine am9 (site:=5632704448) (id:=5632704448) (bytes:=88) (go1.of_eq (bn ae)) hx BP (nf _ ae ae ae) (nf _ ae ae ae) (.inl rfl) (by simp only[dL,fv];omega) fun c bN hc bR=>?_;have BS':=(bR 5632320448 ae ae (nf _ ae ae ae)).trans ((bn ae).trans bS1);have BB':=(bR 5632384064 ae ae (nf _ ae ae ae)).trans ((bn ae).trans Mn);simp only[go_sem,h4,h6,h7,h8,NC,ND,BS',BB',w1,aB,hS2];refine⟨c,rfl,?_⟩;rw[<- qM];exact hc
 have:k=2*ls.length:=aa;subst this;simp only[go_sem,i88_l1,i88_r2,h6,NC,ND,fh];have:=Z7 hm (nD ls) h2n (cD _);unfold ff gO;rw[this];exact za go
structure Pc where
 l:Let
 d:Bool
abbrev c_:=List Pc
def Pc.ps(p:Pc):b_:=[.int .i64 p.l.kind,.int .i64 p.l.gate,.int .i64 p.l.aA,.int .i64 p.l.id,.int .i64 p.l.sign,.bool p.l.over,.bool p.d]
abbrev eI(o:c_):s_:=o.map Pc.ps
abbrev nu:Nat:=143
def lN:Let:=⟨0,0,0,0,0,false⟩
def pieces(ls:ai):c_:=(List.range ls.length).map fun i=>⟨ls.getD i lN,eW ls i⟩
def bk(ls:ai):(pieces ls).length=ls.length:=by simp[pieces]
def jm{i:Nat}{l:Let}(h:ls[i]?=some l):(pieces ls)[i]?=some ⟨l,eW ls i⟩:=by have:=(aW.1 h).1;simp only[pieces,gk,tM this,nE,dK,h,ow]
def j7{o:c_}{k:Nat}{p:Pc}(h:o[k]?=some p):(eI o)[k]?=some p.ps:=by simp[h]
def qu(L:a_)(ds:a_)(v:Nat):a_:=ds.foldl (fun L d=>L.set d v) L
def rL:q_->Nat->a_->a_
 |[],_,L=>L
 |f::r,j,L=>rL r (j+1) (qu L f.cG j)
def qj(F:Nat)(ls:ai):a_:=rL (ff F ls) 0 (List.replicate (2*ls.length) 0)
def Pk(L ds:a_)(v:Nat):(qu L ds v).length=L.length:=by
 induction ds generalizing L with
 |nil=>rfl
 |cons d ds ih=>show(qu (L.set d v) ds v).length=_;rw[ih];simp
def as7(L a b:a_)(v:Nat):qu L (a++b) v=qu (qu L a v) b v:=by simp[qu]
def Un(fs:q_):∀(j:Nat) (L:a_),(rL fs j L).length=L.length:=by
 induction fs with
 |nil=>intro j L;rfl
 |cons f r ih=>intro j L;show(rL r (j+1) _).length=_;rw[ih,Pk]
def apI(a:q_)(f:Fc):∀(j:Nat) (L:a_),rL (a++[f]) j L=qu (rL a j L) f.cG (j+a.length):=by
 induction a with
 |nil=>intro j L;rfl
 |cons g r ih=>intro j L;show rL (r++[f]) (j+1) _=_;rw[ih];simp[rL];congr 1;omega
def ajm(F:Nat)(ls:ai):∀(w:a_) (f:Fc),(w.foldl (Fc.add F ls) f).cG=f.cG++w.filter (fun x=>decide (x<2*ls.length)):=by
 intro w
 induction w with
 |nil=>intro f;simp
 |cons x w ih=>
  intro f;rw[Bt,ih];unfold Fc.add;by_cases h:x<2*ls.length
  .rw[aG h,List.filter_cons_of_pos (by simpa using h)];simp
  rw[aC h,VI (by simpa using h)]
def BG(F:Nat)(ls:ai)(w:a_):(mf F ls w).cG=w.filter (fun x=>decide (x<2*ls.length)):=by unfold mf;rw[ajm];rfl
def W9{f:Fc}(h:f∈ff F ls):∀d∈f.cG,d<2*ls.length:=by
 obtain⟨w,_,rfl⟩:=cV.1 h;intro d hd;rw[BG] at hd
 simpa using (uv.1 hd).2
def Xa(ok:fN F ls){f:Fc}(h:f∈ff F ls):f.cG.length<=nD ls:=by obtain⟨w,hw,rfl⟩:=cV.1 h;rw[BG];exact oZ (List.length_filter_le _ _) (Py ok w hw).2.1
def acH(F:Nat)(ls:ai):(ff F ls).length=mO ls:=by simp[ff,mO]
def Xb{o:q_}{k:Nat}{p:Fc}(h:o[k]?=some p):(uF o)[k]?=some p.ps:=by simp[h]
abbrev fA(F:Nat)(ls:ai):PV:=.box [.int .i64 F,.sl (eI (pieces ls)),.sl (uF (ff F ls)),.sl (nP (qj F ls)),.int .i64 (aq Let.aF ls:Nat),.int .i64 ((aq Let.aD ls/2:Nat):Int),.sl (nP (counts ls F))]
abbrev Ms(F:Nat)(ls:ai)(pc cf:C):f_:=[.p (.int .i64 F),pc,cf,.hsl 4480256448 1 1 0 (2*ls.length),.p (.int .i64 (aq Let.aF ls:Nat)),.p (.int .i64 ((aq Let.aD ls/2:Nat):Int)),.hsl 4480256960 1 1 0 (F+1)]
def aqV{F:Nat}{ls:ai}(g:cE F ls){pc cf:C}{ak:Env}{aj:aE}{Q:eK}(h4:ak 4=.one cf)(h6:ak 6=.one (.bt 4480257088 1 0))
  (bB:aj 4480257088=(1,some (.var (Ms F ls pc cf)))) (bL:aj 4480256448=(1,some (.arr 3 1 (nP (List.replicate (2*ls.length) 0))))) (bC:aj 4480256960=(1,some (.arr 3 1 (nP (counts ls F))))) (gp:grown 4480896448 nu 7 (eI (pieces ls)) (.one pc) aj) (gf:grown 4480064064 BE 5 (uF (ff F ls)) (.one cf) aj)
  (hq:∀aH ao,aH 6=ak 6->ao 4480257088=(1,some (.var (Ms F ls pc cf)))->ao 4480256448=(1,some (.arr 3 1 (nP (qj F ls))))->ao 4480256960=(1,some (.arr 3 1 (nP (counts ls F))))->grown 4480896448 nu 7 (eI (pieces ls)) (.one pc) ao->grown 4480064064 BE 5 (uF (ff F ls)) (.one cf) ao->W S .all i70_r5 Q aH ao):
  W S .all i70_r6 Q ak aj:=by
 have ok:=g.ok;have hl:=ok.hl;have hlen:=g.len;have iC:(aI ls).length<=ls.length:=xN ls ls.length;have gH:nD ls<=4000000:=by unfold nD;omega
 have zw:(ff F ls).length<=nD ls:=by rw[ff,cU];exact Px (aQ ls) (nD ls) _
 obtain⟨g0,XC⟩:∃gg,cf=.hsl 4480064064 gg 5 0 (ff F ls).length:=by
  rcases gf with ⟨e,_⟩|⟨_,gg,e,hb⟩
  .have h1:(ff F ls).length=0:=by simpa using congrArg List.length e
   rw[acH,g.nw] at h1;omega
  cases e;exact⟨gg,by rw[cU]⟩
 have vr:=h4;rw[XC] at vr;simp only[go_sem,i70_r6,vr];refine dG (fun k aH ao=>aH 6=ak 6/\aH 78=.one cf/\aH 79=vi (ff F ls).length/\aH 80=vi k/\ao 4480257088=(1,some (.var (Ms F ls pc cf)))/\ao 4480256448=(1,some (.arr 3 1 (nP (rL ((ff F ls).take k) 0 (List.replicate (2*ls.length) 0)))))/\ao 4480256960=(1,some (.arr 3 1 (nP (counts ls F))))/\
   grown 4480896448 nu 7 (eI (pieces ls)) (.one pc) ao/\grown 4480064064 BE 5 (uF (ff F ls)) (.one cf) ao) 0 (ff F ls).length (cA _) ?_ ?_
 .simp only[go_sem,bB,bL,bC,rL,XC];exact⟨rfl,gp,by first|exact gf|(rw[<- XC];exact gf)⟩
 rintro k aH ao hk ⟨q6,h78,h79,h80,bB,bL,bC,gp,gf⟩
 rw[h6] at q6;by_cases aB:k<(ff F ls).length
 .have aP:((k:Int)<((ff F ls).length:Int)):=aa;obtain⟨f,hf⟩:=aN aB;have Hv:=Xb hf;have mj:=aZ hf;have hdl:=Xa ok mj;have Kf:=W9 mj;have w1:=df (n:=k) aa;have oN:rL ((ff F ls).take (k+1)) 0 (List.replicate (2*ls.length) 0)=qu (rL ((ff F ls).take k) 0 (List.replicate (2*ls.length) 0)) f.cG k:=by
   rw[nC,hf];show rL (_++[f]) 0 _=_;rw[apI,iH,Aj aa,jr]
  have hLl:(rL ((ff F ls).take k) 0 (List.replicate (2*ls.length) 0)).length=2*ls.length:=by rw[Un,List.length_replicate]
  generalize rL ((ff F ls).take k) 0 (List.replicate (2*ls.length) 0)=L at bL oN hLl;obtain⟨gg,wK,bf⟩:∃gg,cf=.hsl 4480064064 gg 5 0 (uF (ff F ls)).length/\ao 4480064064=(gg,some (.arr BE 5 (uF (ff F ls)))):=by
   rcases gf with ⟨e,_⟩|⟨_,gg,e,hb⟩
   .have:(ff F ls).length=0:=by simpa using congrArg List.length e
    omega
   cases e;exact⟨gg,rfl,hb⟩
  rw[cU] at wK;have Xu:=h78;rw[wK] at Xu;simp only[go_sem,i70_l4,Xu,h79,h80,bf,Hv,Fc.ps,aB,aP];refine dG (fun j dE bN=>dE 6=.one (.bt 4480257088 1 0)/\dE 11=vi k/\dE 78=.one cf/\dE 79=vi (ff F ls).length/\dE 80=vi k/\dE 86=.one (.p (.sl (nP f.cG)))/\dE 87=vi f.cG.length/\dE 88=vi j/\
   bN 4480257088=(1,some (.var (Ms F ls pc cf)))/\bN 4480256448=(1,some (.arr 3 1 (nP (qu L (f.cG.take j) k))))/\bN 4480256960=(1,some (.arr 3 1 (nP (counts ls F))))/\grown 4480896448 nu 7 (eI (pieces ls)) (.one pc) bN/\grown 4480064064 BE 5 (uF (ff F ls)) (.one cf) bN) 0 f.cG.length (cA _) ?_ ?_
  .simp only[go_sem,q6,wK,Xu,h79,h80,bB,bL,bC,qu,List.foldl_nil];refine⟨rfl,gp.of_eq (bn ae),?_⟩;first|exact gf.of_eq (bn ae)|(rw[<- wK];exact gf.of_eq (bn ae))
  rintro j dE bN hj ⟨p6,p11,p78,p79,p80,p86,p87,p88,cB,cL,cC,cp,cg⟩
  by_cases ud:j<f.cG.length
  .have HB:((j:Int)<(f.cG.length:Int)):=aa;obtain⟨d,hd⟩:=aN ud;have lK:=kI hd;have hdb:=Kf d (aZ hd);have w2:=df (n:=j) aa;have iF:(qu L (f.cG.take j) k).set d k=qu L (f.cG.take (j+1)) k:=by rw[nC,hd,as7];rfl
   have fR:=K0 (qu L (f.cG.take j) k) d k;rw[iF] at fR;obtain⟨v0,hv0⟩:=aN (ls:=qu L (f.cG.take j) k) (k:=d) (by rw[Pk,hLl];exact hdb);have hv:=kI hv0;simp only[go_sem,i70_l2,p6,p11,p78,p79,p80,p86,p87,p88,cB,cL,cC,ud,HB,lK,hdb,hv,fR,w2];exact⟨cp.of_eq (bn ae),cg.of_eq (bn ae)⟩
  have:j=f.cG.length:=aa;subst this;rw[lR,<- oN] at cL;simp only[go_sem,i70_l2,i70_r3,p6,p78,p79,p80,p87,p88,cB,cL,cC,fh,w1,aB,h6];exact⟨cp,cg⟩
 have:k=(ff F ls).length:=aa;subst this;rw[lR] at bL;simp only[go_sem,i70_l4,h79,h80,fh];exact hq _ _ (by simp only[go_sem,q6,h6]) bB bL bC gp gf
def Zf(g:cE F ls):aO S 70 [fe F ls] (Bl (fA F ls) (.int .i64 0)):=by
 have ok:=g.ok;have hl:=ok.hl;have hlen:=g.len;have wN:=g.fing;have pf:=amD g;have pps:=O8 F ls hl;have Cx:=Qo F ls hl;have lo:S.lone 4480064064=false:=ah;have m2:=uZ (a:=ls.length) aa;have wF:=df (n:=F) aa;have r1:2*ls.length*8<=140737488355328:=aa;have r2:(F+1)*8<=140737488355328:=aa;have e1:List.replicate (2*ls.length) [PV.int .i64 0]=nP (List.replicate (2*ls.length) 0):=af;have e2:List.replicate (F+1) [PV.int .i64 0]=nP (sV ls F 0):=by rw[WK];simp
 refine bY c70 ?_;simp only[go_sem,i70,s88];refine adj pf lo fun cf pK wK s0=>?_;have Ml:=s0 4480000000 ae;simp only[go_sem] at Ml;simp only[go_sem,Ml,m2,wF,r1,r2,s7,s8,dI pps,dI Cx,e1,e2];refine⟨aL,?_⟩;have hz:∀j,j≠4480064064->j≠4480000000->pK j=(0,none):=fun j a b=>(s0 j a).trans (bn b);have z1:=hz 4480256448 ae ae;have z2:=hz 4480256960 ae ae;have z3:=hz 4480257088 ae ae;refine dG (fun k ak aj=>ak 4=.one cf/\ak 6=.one (.bt 4480257088 1 0)/\ak 7=vb (dn ls k)/\ak 42=.one (.p (dJ ls))/\ak 43=vi ls.length/\ak 44=vi k/\
   aj 4480256448=(1,some (.arr 3 1 (nP (List.replicate (2*ls.length) 0))))/\aj 4480256960=(1,some (.arr 3 1 (nP (sV ls F k))))/\
   ∃pc,aj 4480257088=(1,some (.var (Ms F ls pc cf)))/\grown 4480896448 nu 7 (eI ((pieces ls).take k)) (.one pc) aj/\grown 4480064064 BE 5 (uF (ff F ls)) (.one cf) aj) 0 ls.length (cA _) ?_ ?_
 .simp only[go_sem,z1,z2,z3];refine⟨rfl,rfl,.p .nils,rfl,.inl ⟨rfl,rfl⟩,wK.of_eq ?_⟩;simp only[go_sem]
 rintro k ak aj hk ⟨h4,h6,h7,rD,NG,NH,bL,bC,pc,bB,gp,gf⟩
 by_cases aB:k<ls.length
 .obtain⟨l,dp⟩:=aN aB;have hi:=jo dp;have aP:((k:Int)<(ls.length:Int)):=aa;have w1:=df (n:=k) aa;have yn:=jm dp;cases hp:(l.kind==1) with
  |false=>
   have gI:l.aF=false:=hp;have lK:eW ls k=false:=by simp[eW,dp,gI]
   rw[lK] at yn;have hd:=MG dp gI;have tZ:=abP (F:=F) dp gI;have oN:eI ((pieces ls).take (k+1))=eI ((pieces ls).take k)++[(Pc.mk l false).ps]:=by rw[nC,yn];simp
   simp only[go_sem,i70_l1,h6,rD,NG,NH,hi,Let.ps,aP,hp,bB];refine Dn (site:=4480896448) (id:=4480896448) (bytes:=56) (xs:=[(Pc.mk l false).ps]) (rd:=[4480896384]) (gp.of_eq (by simp only[aU,Nat.reduceEqDiff,if_false])) (by simp[gb,aU,Pc.ps]) (.inl rfl) (by simp only[cU,dL,fv,iH,bk];omega) fun c cZ r u hc hb hr=>?_;have pS:∀i,i≠4480896448->i≠4480896384->i≠4480576128->i≠4480512128->i≠4480256960->cZ i=aj i:=fun i a b c d e=>(hb i a a).trans (by simp only[aU,aC b,aC c,aC d])
   have AX:=(hb 4480256960 ae ae);simp only[aU,Nat.reduceEqDiff,if_false,bC] at AX;have Mn:=(pS 4480257088 ae ae ae ae ae).trans bB;have bL1:=(pS 4480256448 ae ae ae ae ae).trans bL;simp only[go_sem,h4,h6,h7,rD,NG,NH,Mn,bL1,AX,w1,hd,tZ,aB];refine⟨?_,?_⟩
   .rcases hr with ⟨rfl,rfl⟩|⟨rfl,rfl⟩|⟨rfl,rfl⟩<;>kernel_rfl
   refine⟨c,rfl,?_,?_⟩
   .rw[oN];exact hc.of_eq (bn ae)
   exact gf.of_eq ((bn ae).trans (pS _ ae ae ae ae ae))
  |true=>
   have gI:l.aF=true:=hp;have lK:eW ls k=dn ls k:=by simp[eW,dp,gI]
   rw[lK] at yn;have hd:=MF dp gI;have oN:eI ((pieces ls).take (k+1))=eI ((pieces ls).take k)++[(Pc.mk l (dn ls k)).ps]:=by rw[nC,yn];simp
   have A3:=ok.ax.fq l (aZ dp) gI;obtain⟨G,hG⟩:=vV A3.g0;have Ka:G<=F:=by have:=A3.g1;omega
   have Hi:G<F+1:=aa;have r4:=kI (abN (ls:=ls) (k:=k) Ka);have cK:cg (ls.take k) G<=k:=Av _ _ _;have w2:=df (n:=cg (ls.take k) G) aa;have s1:=K0 (sV ls F k) G (cg (ls.take k) G+1);rw[<- abO dp gI hG] at s1;simp only[go_sem,i70_l1,h6,h7,rD,NG,NH,hi,Let.ps,aP,hp,hG,bB,bC,r4,Hi,w2,s1];refine⟨aL,?_⟩;refine Dn (site:=4480896448) (id:=4480896448) (bytes:=56) (xs:=[(Pc.mk l (dn ls k)).ps]) (rd:=[4480896384]) (gp.of_eq (by simp only[aU,Nat.reduceEqDiff,if_false])) (by simp[gb,aU,Pc.ps,hG]) (.inl rfl) (by simp only[cU,dL,fv,iH,bk];omega) fun c cZ r u hc hb hr=>?_
   have pS:∀i,i≠4480896448->i≠4480896384->i≠4480576128->i≠4480512128->i≠4480256960->cZ i=aj i:=fun i a b c d e=>(hb i a a).trans (by simp only[aU,aC b,aC c,aC d,aC e]);have AX:=(hb 4480256960 ae ae);simp only[aU,Nat.reduceEqDiff,if_false,if_true,bC] at AX;have Mn:=(pS 4480257088 ae ae ae ae ae).trans bB;have bL1:=(pS 4480256448 ae ae ae ae ae).trans bL;simp only[go_sem,h4,h6,h7,rD,NG,NH,Mn,bL1,AX,w1,hd,aB];refine⟨?_,?_⟩
   .rcases hr with ⟨rfl,rfl⟩|⟨rfl,rfl⟩|⟨rfl,rfl⟩<;>kernel_rfl
   refine⟨c,rfl,?_,?_⟩
   .rw[oN];exact hc.of_eq (bn ae)
   exact gf.of_eq ((bn ae).trans (pS _ ae ae ae ae ae))
 have:k=ls.length:=aa;subst this;rw[gT (by rw[bk];exact cD _)] at gp;rw[WJ] at bC;simp only[go_sem,i70_l1,NG,NH,fh];refine aqV g (pc:=pc) (cf:=cf) ?_ ?_ bB bL bC gp gf ?_
 .simp only[go_sem,h4]
 .simp only[go_sem,h6]
 intro aH ao q6 cB cL cC gp' gf';simp only[go_sem,h6] at q6;obtain⟨rp,np,_⟩:=gp'.ZH (n:=4);obtain⟨rf,nf,_⟩:=gf'.ZH (n:=4);have t1:List.take (2*ls.length) (nP (qj F ls))=nP (qj F ls):=gT (by simp[qj,Un]);have t2:List.take (F+1) (nP (counts ls F))=nP (counts ls F):=gT (by simp[counts]);have n1:2*ls.length<=(qj F ls).length:=by simp[qj,Un]
 have n2:F+1<=(counts ls F).length:=by simp[counts]
 simp only[go_sem,i70_r5,q6];simp only[go_sem,j6,uH,wD,pO,nU,kJ,cB,cL,cC,np,nf,t1,t2,n1,n2];rfl
def xx{x:Int}(h1: -9223372036854775808<=x)(h2:x<=9223372036854775807):IntKind.i64.wrap x=x:=by
 have e:(2 ^ IntKind.i64.bits:Int)=18446744073709551616:=ae;have e2:(2 ^ (IntKind.i64.bits-1):Int)=9223372036854775808:=ae;unfold IntKind.wrap;simp only[e,e2];by_cases h:0<=x
 .have h3:x%18446744073709551616=x:=aa;rw[h3];have h4:¬x≥9223372036854775808:=aa;simp[h4]
 have h3:x%18446744073709551616=x+18446744073709551616:=aa;rw[h3];have h4:x+18446744073709551616≥9223372036854775808:=aa;have h5:IntKind.i64.signed=true:=rfl;simp[h4,h5]
def auK(l:c_):aw 7 (eI l)=true:=by simp[aw,Pc.ps]
def Er(l:c_):((eI l).all fun e=>e.all PV.scalar)=true:=by simp[Pc.ps,PV.scalar]
abbrev FX(l x:c_)(k:Nat):c_:=l.take (k+1)++x++l.drop (k+1)
def agL(a b:c_):eI (a++b)=eI a++eI b:=af
def ak4(p:Pc)(t:c_)(hl:(p::t).length<=1000000):aO S 139 [.one (.p (.sl (eI (p::t))))] (.one (bh nu 7 (eI (p::t)))):=by
 have hs:=auK (p::t);have hr:(0+(eI (p::t)).length)*56<=room:=by unfold room;rw[cU];omega
 refine bY c139 ?_;obtain⟨e0,es,hq⟩:∃e0 es,eI (p::t)=e0::es:=⟨_,_,rfl⟩;rw[hq] at hs hr |-;have aK:e0::es≠[]:=af;have th:bh nu 7 (e0::es)=.own nu 7 (e0::es):=aC aK;rw[th];unfold room at hr;simp only[jr,dL] at hr;simp only[aw,oY] at hs;simp only[go_sem,i139,au,aw];simp only[hs,hr,not_true_eq_false,if_true,if_false];simp only[go_sem];exact Le Bp rfl
def tG(g ab b:Int)(p:Pc):Pc:=if (p.l.kind==1)&&((p.l.gate==g)&&decide (ab<p.l.aA)) then {p with l:={p.l with aA:=p.l.aA+b}} else p
abbrev ke(l:c_)(g ab b:Int):c_:=l.map (tG g ab b)
def ahH(id:Nat)(es:s_)(c:C)(aj:aE)(v:V)(ao:aE):Prop:=v=.tup []/\grown id nu 7 es (.one c) ao/\Kept (· =id) aj ao
def atg{al:Al}{aj:aE}{id:Nat}{l:c_}{c:C}{g ab b:Int}(o:l=[]\/al.ok id=true)(hl:l.length<=1000000)(hb: -100<=b/\b<=100)(hr:∀p∈l,-1000000<=p.l.aA/\p.l.aA<=1000000)(h:grown id nu 7 (eI l) (.one c) aj):
  ∃v ao,jd S 137 [.one c,vi g,vi ab,vi b] al aj v ao/\ahH id (eI (ke l g ab b)) c aj v ao:=by
 refine nH c137 (iI rfl) ?_;rcases h with ⟨h1,h2⟩|⟨aK,gg,h2,hC⟩
 .cases h2;have hln:l=[]:=by simpa using h1
  subst hln;have hz:¬(((0:Nat):Int)<((0:Nat):Int)):=aa;simp only[go_sem,i137];refine dG (fun k ak ao=>k=0/\ak 10=vi ((0:Nat):Int)/\ak 11=vi ((0:Nat):Int)/\ao=aj) 0 0 (cD _) ?_ ?_
  .simp only[go_sem];exact rfl
  rintro k ak ao _ ⟨rfl,ek,gD,rfl⟩
  simp only[go_sem,i137_l1,ek,gD,hz];exact⟨rfl,.inl ⟨rfl,rfl⟩,fun _ _=>rfl⟩
 cases h2;have o:=o.resolve_left (by simpa using aK);simp only[go_sem,i137];refine dG (fun k ak ao=>ak 0=.one (.hsl id gg 7 0 l.length)/\ak 1=vi g/\ak 2=vi ab/\ak 3=vi b/\ak 10=vi l.length/\ak 11=vi k/\ao id=(gg,some (.arr nu 7 (eI ((ke (l.take k) g ab b)++l.drop k))))/\Kept (· =id) aj ao) 0 l.length (cA _) ?_ ?_
 .simp only[go_sem,hC];refine⟨?_,?_⟩
  .simp[]
  exact Kept.refl _ _
 rintro k ak ao hk ⟨h0,h1,h2,h3,ek,gD,hF,dQ⟩
 by_cases aB:k<l.length
 .have aP:((k:Int)<(l.length:Int)):=aa;obtain⟨p,hp⟩:=aN aB;have w1:=df (n:=k) aa;obtain⟨r1,r2⟩:=hr p (aZ hp);have wr:=xx (x:=p.l.aA+b) aa aa;have A0:l.drop k=p::l.drop (k+1):=by
   obtain⟨hh,rfl⟩:=aW.1 hp;exact List.drop_eq_getElem_cons hh
  have hlen:((ke (l.take k) g ab b)++l.drop k).length=l.length:=by simp[ke];omega
  have jU:((ke (l.take k) g ab b)++l.drop k)[k]?=some p:=by
   rw[Ag (by simp[ke];omega)];have:k-(ke (l.take k) g ab b).length=0:=by simp[ke];omega
   rw[this,A0];rfl
  have iF:((ke (l.take k) g ab b)++l.drop k).set k (tG g ab b p)=(ke (l.take (k+1)) g ab b)++l.drop (k+1):=by
   have e1:(ke (l.take k) g ab b).length=k:=by simp[ke];omega
   rw[List.set_append_right _ _ aa,e1,Nat.sub_self,A0,List.set_cons_zero,nC,hp];simp[ke]
  have fG:=j7 jU;have FJ:eI (((ke (l.take k) g ab b)++l.drop k).set k (tG g ab b p))=(eI ((ke (l.take k) g ab b)++l.drop k)).set k (tG g ab b p).ps:=by simp[eI,List.map_set]
  rw[iF] at FJ;have Cb:tG g ab b p=p->eI ((ke (l.take k) g ab b)++l.drop k)=eI ((ke (l.take (k+1)) g ab b)++l.drop (k+1)):=fun e=>by rw[FJ,e];obtain⟨hh,he⟩:=aW.1 fG;rw[<- he,List.set_getElem_self]
  generalize (ke (l.take k) g ab b)++l.drop k=m at hF jU fG FJ Cb hlen;have kY:k<(eI m).length:=by rw[cU];omega
  cases c1:(p.l.kind==1) with
  |false=>have e:=Cb (by unfold tG;rw[c1];rfl);simp only[go_sem,i137_l1,h0,h1,h2,h3,ek,gD,hF,fG,Pc.ps,aB,aP,c1,w1,o];exact⟨by rw[e],dQ⟩
  |true=>
   cases c2:(p.l.gate==g) with
   |false=>have e:=Cb (by unfold tG;rw[c1,c2];rfl);simp only[go_sem,i137_l1,h0,h1,h2,h3,ek,gD,hF,fG,Pc.ps,aB,aP,c1,c2,w1,o];exact⟨by rw[e],dQ⟩
   |true=>
    by_cases c3:ab<p.l.aA
    .have e:(tG g ab b p).ps=[.int .i64 p.l.kind,.int .i64 p.l.gate,.int .i64 (p.l.aA+b),.int .i64 p.l.id,.int .i64 p.l.sign,.bool p.l.over,.bool p.d]:=by unfold tG;rw[c1,c2,xH c3];rfl
     rw[e] at FJ;simp only[go_sem,i137_l1,h0,h1,h2,h3,ek,gD,hF,fG,Pc.ps,aB,aP,c1,c2,c3,w1,wr,o];refine⟨?_,?_⟩
     .first|rw[FJ]|(rw[FJ];rfl)
     exact dQ.eH rfl _
    have e:=Cb (by unfold tG;rw[c1,c2,xG c3];rfl);simp only[go_sem,i137_l1,h0,h1,h2,h3,ek,gD,hF,fG,Pc.ps,aB,aP,c1,c2,c3,w1,o];exact⟨by rw[e],dQ⟩
 have:k=l.length:=aa;subst this;simp only[go_sem,i137_l1,ek,gD,fh];refine⟨rfl,?_,dQ⟩;rw[lR,List.drop_length,jJ] at hF;exact .inr ⟨by simpa using aK,gg,by simp[ke],hF⟩
def Ej(p:Pc):Bool:=(p.l.kind==1)&&p.d
def pdA(l:c_)(i:Nat):Bool:=match l[i]? with|some p=>Ej p|none=>false
def Pa{l:c_}{i:Nat}{p:Pc}(h:l[i]?=some p):pdA l i=Ej p:=by simp[pdA,h]
def tX(l:c_):w_:=(List.range l.length).find? (pdA l)
def alO(p:Pc):aO S 117 [.agg (p.ps.map .p)] (rb (Ej p)):=by
 refine bY c117 ?_;unfold Ej;cases h:(p.l.kind==1) with
 |true=>simp only[go_sem,i117,Pc.ps,h]
 |false=>simp only[go_sem,i117,Pc.ps,h]
def ao7(l:c_)(hl:l.length<=1000000):aO S 116 [.one (.p (.sl (eI l))),.one (.p (.fn 117 [] []))] (ri (match tX l with|some k=>(k:Int)|none=> -1)):=by
 refine bY c116 ?_;simp only[go_sem,i116];refine dG (fun k ak aj=>ak 0=.one (.p (.sl (eI l)))/\ak 1=.one (.p (.fn 117 [] []))/\ak 7=vi l.length/\ak 8=vi k/\ ∀j,j<k->pdA l j=false) 0 l.length (cA _) ?_ ?_
 .simp only[go_sem];exact⟨rfl,fun j hj=>absurd hj (o9 j)⟩
 rintro k ak aj hk ⟨h0,h1,h7,h8,hn⟩
 by_cases aB:k<l.length
 .have aP:((k:Int)<(l.length:Int)):=aa;obtain⟨p,hp⟩:=aN aB;have fG:=j7 hp;have w1:=df (n:=k) aa;have pd:=alO p;have oJ:=Pa hp;cases hb:Ej p with
  |true=>rw[hb] at pd oJ;have hf:tX l=some k:=Dw aB hn oJ;simp only[Pc.ps,eD,kL] at pd;simp only[go_sem,i116_l1,h0,h1,h7,h8,aP,fG,Pc.ps,s117,aJ pd,hf]
  |false=>
   rw[hb] at pd oJ;simp only[Pc.ps,eD,kL] at pd;simp only[go_sem,i116_l1,h0,h1,h7,h8,aB,aP,fG,Pc.ps,s117,aJ pd,w1];intro j hj;rcases og.1 hj with h|rfl
   .exact hn j h
   exact oJ
 have:k=l.length:=aa;subst this;have hf:tX l=none:=JP hn;simp only[go_sem,i116_l1,i116_r2,h7,h8,fh,hf]
abbrev mN:Nat:=37
def xr(l:c_)(am1 k:Nat):ai:=(List.range k).map fun i=>(l.getD ((am1+i)%l.length) ⟨lN,false⟩).l
def asQ{l:c_}{f k:Nat}{p:Pc}(h:l[(f+k)%l.length]?=some p):xr l f (k+1)=xr l f k++[p.l]:=by simp[xr,yO,dK,h]
def dT(l:c_):ai:=xr l ((tX l).getD 0) l.length
abbrev ez(o:ai):s_:=o.map Let.ps
def anv{s1 t1 z1:Nat}{es:s_}{c:C}{x:PV}{aj:aE}(h:grown s1 t1 z1 es (.one c) aj):j6 aj (.agg [.p x,c])=some (.agg [.p x,bh t1 z1 es]):=by obtain⟨c',o,hc,h2,h3⟩:=h.kJ;cases hc;rcases h3 with rfl|rfl<;>simp[j6,uH,pO,nU,h2,(show Go.Abs.kJ aj (.p x)=some (.p x,[],[]) from rfl),apart,xn,uk]
def amJ(F:Nat)(l:c_)(hl:l.length<=1000000)(x1 x2 x3 x4 x5 x6:PV):aO S 94 [.one (.p (.box [.int .i64 F,x1,x2,x3,x4,x5,x6])),.one (.p (.sl (eI l)))] (.agg [.p (.int .i64 F),bh mN 6 (ez (dT l))]):=by
 have px:=ao7 l hl;have hfd:∃f,(tX l).getD 0=f/\(l≠[]->f<l.length):=by
  refine⟨_,rfl,fun aK=>?_⟩;cases h:tX l with
  |none=>exact jQ.2 aK
  |some k=>exact iv.1 (IL h)
 obtain⟨f,hf,zw⟩:=hfd;have tu:((tX l=none/\f=0)\/tX l=some f):=by
  cases h:tX l with
  |none=>rw[h] at hf;exact .inl ⟨rfl,hf.symm⟩
  |some k=>rw[h] at hf;exact .inr (congrArg some hf)
 unfold dT;rw[hf];have main:∀(ak:Env) (aj:aE),ak 1=.one (.p (.sl (eI l)))->ak 4=.one (.bt 6016000000 1 0)->ak 5=.one (.bt 6016064320 1 0)->ak 6=vi f->ak 17=vi l.length->ak 18=vi ((0:Nat):Int)->aj 6016000000=(1,some (.var [.p (.int .i64 0),.p .nils]))->aj 6016064320=(1,some (.var [.p (.int .i64 F),.p .nils]))->
   W S .all (.loop i94_l1) (rV 0 (Ew S .all i94_r2 (tW .all [(4,some (some 2))] fun v aj=>j6 aj v=some (.agg [.p (.int .i64 F),bh mN 6 (ez (xr l f l.length))])))) ak aj:=by
  intro ak aj e1 e4 e5 e6 JB JC b0 bO;refine dG (fun k ak aj=>ak 1=.one (.p (.sl (eI l)))/\ak 4=.one (.bt 6016000000 1 0)/\ak 5=.one (.bt 6016064320 1 0)/\ak 6=vi f/\ak 17=vi l.length/\ak 18=vi k/\aj 6016000000=(1,some (.var [.p (.int .i64 0),.p .nils]))/\ ∃c,aj 6016064320=(1,some (.var [.p (.int .i64 F),c]))/\grown 6016384832 mN 6 (ez (xr l f k)) (.one c) aj) 0 l.length (cA _) ⟨e1,e4,e5,e6,JB,JC,b0,.p .nils,bO,.inl ⟨rfl,rfl⟩⟩ ?_;rintro k ak aj hk ⟨h1,h4,h5,h6,iw,gE,b0,c,bO,gc⟩
  by_cases aB:k<l.length
  .have aP:((k:Int)<(l.length:Int)):=aa;have aK:l≠[]:=jQ.1 aa;have zw:=zw aK;have w1:=df (n:=k) aa;have w2:=wrap_add (a:=f) (b:=k) aa;have e2:=xv (f+k) l.length;have hm:=dk (f+k) (show 0<l.length by omega);obtain⟨p,hp⟩:=aN hm;have fG:=j7 hp;have hz:¬((l.length:Int)=0):=aa;have hr:=asQ hp;have hle:(xr l f k).length=k:=by simp[xr]
   simp only[go_sem,i94_l1,h1,h5,h6,iw,gE,bO,aP,w2,e2,hz,fG,Pc.ps];refine Dn (site:=6016384832) (id:=6016384832) (bytes:=48) (xs:=[p.l.ps]) (rd:=[6016384768]) (gc.of_eq (bn ae)) (by simp[gb,aU,Let.ps]) (.inl rfl) (by simp only[cU,hle,dL,fv];omega) fun c' cZ r u hc hb hru=>?_;have bO1:=(hb 6016064320 ae ae).trans ((bn ae).trans bO);have b01:=(hb 6016000000 ae ae).trans ((bn ae).trans b0);simp only[go_sem,h1,h4,h5,h6,iw,gE,bO1,b01,aB,w1];refine⟨?_,c',rfl,?_⟩
   .rcases hru with ⟨rfl,rfl⟩|⟨rfl,rfl⟩|⟨rfl,rfl⟩<;>kernel_rfl
   rw[hr,ez,ki];exact hc.of_eq (bn ae)
  have:k=l.length:=aa;subst this;simp only[go_sem,i94_l1,i94_r2,h4,h5,iw,gE,bO,b0,fh];exact anv (gc.of_eq (bn ae))
 refine bY c94 ?_;rcases tu with ⟨hn,rfl⟩|hs
 .rw[hn] at px;have On:¬((0:Int)< -1):=ae;simp only[go_sem,i94,s116,eF px];exact main _ _ (by simp only[go_sem]) (by simp only[go_sem]) (by simp only[go_sem]) (by simp only[go_sem];rfl) (by simp only[go_sem]) (by simp only[go_sem];rfl) (by simp only[go_sem]) (by simp only[go_sem])
 rw[hs] at px;simp only[go_sem,i94,s116,eF px];exact main _ _ (by simp only[go_sem]) (by simp only[go_sem]) (by simp only[go_sem]) (by simp only[go_sem];split<;>(first|rfl|(congr 1;simp;omega))) (by simp only[go_sem]) (by simp only[go_sem];rfl) (by simp only[go_sem]) (by simp only[go_sem])
def apu:aO S 92 [] (.agg [.p .zR,.p (.fn 107 [] []),.p (.fn 108 [] []),.p (.fn 109 [] []),.p (.fn 110 [] []),.p (.fn 111 [] []),.p (.fn 112 [] []),.p (.fn 113 [] []),.p (.fn 114 [] []),.p (.fn 115 [] []),.p (.fn 115 [] [])]):=by refine bY c92 ?_;simp only[go_sem,i92];rfl
def mJ(k:Int):Int×Int:=if k=2 then (2,0) else if k=5 then (2,1) else if k=7 then (4,2) else (0,0)
def anw(k:Int):aO S 93 [vi k] (.tup [.one (.p (.int .i64 (mJ k).1)),.one (.p (.int .i64 (mJ k).2))]):=by
 refine bY c93 ?_;unfold mJ;by_cases h2:k=2
 .subst h2;simp only[go_sem,i93];rfl
 by_cases h5:k=5
 .subst h5;simp only[go_sem,i93];rfl
 by_cases h7:k=7
 .subst h7;simp only[go_sem,i93];rfl
 rw[aC h2,aC h5,aC h7];have e2:(k==2)=false:=by simpa using h2
 have e5:(k==5)=false:=by simpa using h5
 have e7:(k==7)=false:=by simpa using h7
 simp only[go_sem,i93,e2,e5,e7];rfl
def abp{l:c_}(aK:l≠[])(hl:l.length<=1000000):aO S 139 [.one (.p (.sl (eI l)))] (.one (bh nu 7 (eI l))):=by
 cases l with
 |nil=>exact absurd rfl aK
 |cons p t=>exact ak4 p t hl
section
variable {Q:eK} {ak:Env} {aj:aE} {os:g_} {d:w_}
def adp{id:Nat}{l:c_}{c:C}{g ab b:Int}(hl:l.length<=1000000)(hb: -100<=b/\b<=100)(hr:∀p∈l,-1000000<=p.l.aA/\p.l.aA<=1000000)(hg:grown id nu 7 (eI l) (.one c) aj)
  (hK:∀ao,grown id nu 7 (eI (ke l g ab b)) (.one c) ao->(∀i,i≠id->ao i=aj i)->RN S .all os Q (put ak d (.tup [])) ao):gP S .all (.sc 137 [.one c,vi g,vi ab,vi b]) d os Q ak aj:=by
 have ho:l=[]\/(allow (S.ctx .all) 137 [.one c,vi g,vi ab,vi b] aj).ok id=true:=by
  rcases UT hg with ⟨h,_⟩|h
  .exact .inl (by simpa using h)
  exact .inr (vg (by simp[h]))
 refine sY (P:=ahH id (eI (ke l g ab b)) c aj) Ba (atg ho hl hb hr hg) ?_;rintro v ao ⟨rfl,h1,h2⟩
 exact hK ao h1 h2
end
def apL(fs:q_):∀(j:Nat) (L:a_),∀v∈rL fs j L,v∈L\/v<j+fs.length:=by
 have iF:∀(ds:a_) (L:a_) (x:Nat),∀v∈qu L ds x,v∈L\/v=x:=by
  intro ds
  induction ds with
  |nil=>intro L x v h;exact .inl h
  |cons d ds ih=>
   intro L x v h;rcases ih (L.set d x) x v h with h|h
   .rcases List.mem_or_eq_of_mem_set h with h|h
    .exact .inl h
    exact .inr h
   exact .inr h
 induction fs with
 |nil=>intro j L v h;exact .inl h
 |cons f r ih=>
  intro j L v h;rcases ih (j+1) (qu L f.cG j) v h with h|h
  .rcases iF _ _ _ v h with h|h
   .exact .inl h
   subst h;exact .inr af
  exact .inr (by simp only[dL];omega)
def O2:Fc:=⟨false,[],[],[],false⟩
def lJ(F:Nat)(ls:ai)(d:Nat):Fc:=(ff F ls).getD ((qj F ls).getD d 0) O2
def YG(F:Nat)(ls:ai):(qj F ls).length=2*ls.length:=by simp[qj,Un]
def W7(g:cE F ls){d:Nat}(hd:d<2*ls.length):∃j,(qj F ls)[d]?=some j/\(ff F ls)[j]?=some (lJ F ls d)/\j<(ff F ls).length:=by
 obtain⟨j,hj⟩:=aN (ls:=qj F ls) (k:=d) (by rw[YG];exact hd);have hn:0<(ff F ls).length:=by rw[acH,g.nw];omega
 have mh:j<(ff F ls).length:=by
  rcases apL (ff F ls) 0 _ j (aZ hj) with h|h
  .have:=VH h;omega
  omega
 refine⟨j,hj,?_,mh⟩;obtain⟨f,hf⟩:=aN mh;unfold lJ;rw[dK (l:=qj F ls),hj,ow,dK,hf];rfl
def af5(b:Nat)(r:Int)(d:Bool):Pc:=⟨⟨1,b,r,0,0,false⟩,d⟩
def PW(ls:ai)(av b c:Nat)(f:Fc)(side:Bool):c_:=FX (ke (pieces ls) b c 2) [af5 b (if f.ig !=side then ((c+2:Nat):Int) else ((c+1:Nat):Int)) f.ig,af5 b (if f.ig !=side then ((c+1:Nat):Int) else ((c+2:Nat):Int)) (!f.ig)] av
def amR(F:Nat)(ls:ai)(av b c:Nat):Option c_:=
 if (b,c)∈(lJ F ls (2*av)).places then some (PW ls av b c (lJ F ls (2*av)) false)
 else if (b,c)∈(lJ F ls (2*av+1)).places then some (PW ls av b c (lJ F ls (2*av+1)) true) else none
def kR (o:Option c_):RV:=.tup [.one (bh nu 7 (eI (o.getD []))),.one (.p (.bool o.isSome))]
def asm(g:cE F ls):∀p∈pieces ls,-1000000<=p.l.aA/\p.l.aA<=1000000:=by
 intro p hp;obtain⟨i,hi⟩:=ia hp;have zA:i<ls.length:=by rw[<- bk];exact(aW.1 hi).1
 obtain⟨l,hl⟩:=aN zA;rw[jm hl] at hi;cases hi;rcases g.ok.kinds l (aZ hl) with h|h
 .have hg:=g.ok.ax.fq l (aZ hl) h;have:=hg.r0;have:=hg.r1;have hc:cg ls l.gate.toNat<=ls.length:=sR _ _;have:=g.len;simp only;omega
 have:=(O3 (f:=F) h).1 (g.bad l (aZ hl));simp only[this.1.2];omega
def lmR(ls:ai)(av:Nat)(sg:Int)(o:Bool):c_:=FX (pieces ls) [⟨⟨2,0,0,((aq Let.aD ls/2+1:Nat):Int),sg,o⟩,false⟩,⟨⟨2,0,0,((aq Let.aD ls/2+1:Nat):Int),sg,!o⟩,false⟩] av
def jx(n:Nat)(i:Int):Bool:=decide (0<=i)&&decide (i<(n:Int))
def is_p(i:Int)(n:Nat):aO S 106 [vi i,.one (.p (.box [.int .i64 n]))] (rb (jx n i)):=by
 refine bY c106 ?_;unfold jx;by_cases h1:0<=i
 .by_cases h2:i<(n:Int)
  .simp only[go_sem,i106,h1,h2]
  simp only[go_sem,i106,h1,h2]
 simp only[go_sem,i106,h1]
def Pj(l:ai):((ez l).all fun e=>e.all PV.scalar)=true:=by simp[Let.ps,PV.scalar]
abbrev l5(F:Nat)(L:ai):RV:=.tup [.agg [.p (.int .i64 F),bh mN 6 (ez L)],.one (.p (.int .i64 0))]
def AN(F:Nat)(ls:ai)(k:Int):Option c_->RV
 |none=>sE 4
 |some L=>if (400:Int)<(ls.length:Int)+(mJ k).1\/(100:Int)<((aq Let.aD ls/2:Nat):Int)+(mJ k).2 then sE 7 else l5 F (dT L)
section
variable {h:Nat}
end
section
variable {h:Nat}
end
def Tw(L:c_):(dT L).length=L.length:=by simp[dT,xr]
def Uc(l x:c_)(k:Nat):(FX l x k).length=l.length+x.length:=by simp only[FX,gJ,iH,lD];omega
end
end Go.Abs
