/- A part. -/
import Derived.Test.YtffbakabajjgcaaGreatDoorWh
set_option linter.all false
set_option maxRecDepth 100000
set_option maxHeartbeats 16000000
namespace Go.Abs
section
variable{ls:List Let}{F:Nat}
theorem M6{e:List PV}(h:e.length=1):∃x0,e=[x0]:=by
 match e,h with
 |[a],_=>exact⟨a,rfl⟩
theorem aco{e:List PV}(h:e.length=2):∃x0 x1,e=[x0,x1]:=by
 match e,h with
 |[a,b],_=>exact⟨a,b,rfl⟩
structure xn (es fs:List (List PV)) (k:Nat):Prop where
 len:fs.length=es.length
 at':∀i,i<es.length->fs[i]?=if i<k\/es.length-1-i<k then es[es.length-1-i]? else es[i]?
theorem xn.start(es:List (List PV)):xn es es 0:=⟨rfl,fun i _=>by rw[ay aa]⟩
theorem xn.step{es fs:List (List PV)}{k:Nat}{a b:List PV}(h:xn es fs k)(hk:k<es.length-1-k)(ha:es[k]?=some a)(hb:es[es.length-1-k]?=some b):
  fs[k]?=some a/\fs[es.length-1-k]?=some b/\xn es ((fs.set k b).set (es.length-1-k) a) (k+1):=by
 have hlen:=h.len;refine⟨?_,?_,⟨by rw[tE,tE];exact hlen,fun i hi=>?_⟩⟩
 .rw[h.at' k aa,ay aa,ha]
 .rw[h.at' _ aa,ay aa,hb]
 rw[mC,tE];by_cases e1:es.length-1-k=i
 .rw[aD e1,aD aa,aD aa,show es.length-1-i=k by omega,ha]
 rw[ay e1,mC];by_cases e2:k=i
 .subst e2;rw[aD rfl,aD aa,aD aa,hb]
 rw[ay e2,h.at' i hi];by_cases e3:i<k\/es.length-1-i<k
 .rw[aD e3,aD aa]
 rw[ay e3,ay aa]
theorem xn.done{es fs:List (List PV)}{k:Nat}(h:xn es fs k)(hk:¬k<es.length-1-k):fs=es.reverse:=by
 refine Au fun i=>?_;rcases Oq i es.length with hi|hi
 .rw[h.at' i hi,Oi hi];by_cases e:i<k\/es.length-1-i<k
  .rw[aD e]
  rw[ay e,show es.length-1-i=i by omega]
 rw[mS (by rw[h.len];exact hi),mS (by rw[lJ];exact hi)]
def Hy(id ty z:Nat)(es:List (List PV))(c:C)(aj:aw)(v:V)(ao:aw):Prop:=v=.tup []/\grown id ty z es.reverse (.one c) ao/\Kept (· =id) aj ao
theorem aqz{al:Al}{aj:aw}{id ty:Nat}{es:List (List PV)}{c:C}(o:es=[]\/al.ok id=true)(hl:es.length<=1000000)(kA:∀e∈es,e.length=1/\ ∀v∈e,v.norm=v)(h:grown id ty 1 es (.one c) aj):
  ∃v ao,iw S 169 [.one c] al aj v ao/\Hy id ty 1 es c aj v ao:=by
 refine mV c169 (iv rfl) ?_;rcases h with ⟨rfl,h2⟩|⟨aI,g,h2,hC⟩
 .cases h2;have w0:IntKind.i64.wrap (((0:Nat):Int)-1)= -1:=ae;have hz:¬((0:Int)< -1):=ae;simp only[go_sem,i169,w0];refine cJ (fun k ak ao=>k=0/\ak 2=vi 0/\ak 3=vi (-1)/\ao=aj) 0 0 (bJ _) ?_ ?_
  .simp only[go_sem]
  rintro k ak ao _ ⟨rfl,h2,h3,rfl⟩
  simp only[go_sem,i169_l1,h2,h3,hz];exact⟨rfl,.inl ⟨rfl,rfl⟩,fun _ _=>rfl⟩
 cases h2;have o:=o.resolve_left aI;have w0:=ur (a:=es.length) aa;simp only[go_sem,i169,w0];refine cJ (fun k ak ao=>ak 0=.one (.hsl id g 1 0 es.length)/\ak 2=vi k/\ak 3=vi ((es.length:Int)-1-(k:Int))/\ ∃fs,ao id=(g,some (.arr ty 1 fs))/\xn es fs k/\Kept (· =id) aj ao) 0 es.length (bj _) ?_ ?_
 .simp only[go_sem];refine⟨rfl,af,es,hC,xn.start es,Kept.refl _ _⟩
 rintro k ak ao hk ⟨h0,h2,h3,fs,hF,hI,dq⟩
 by_cases aq:k<es.length-1-k
 .have e1:((es.length:Int)-1-(k:Int))=((es.length-1-k:Nat):Int):=aa;rw[e1] at h3;have aL:((k:Int)<((es.length-1-k:Nat):Int)):=aa;have w1:=bN (n:=k) aa;have w2:IntKind.i64.wrap (((es.length-1-k:Nat):Int)-1)=((es.length:Int)-1-((k+1:Nat):Int)):=by
   rw[ur aa];omega
  obtain⟨a,ha⟩:=aM (show k<es.length by omega);obtain⟨b,hb⟩:=aM (show es.length-1-k<es.length by omega);obtain⟨fa,fb,wD⟩:=hI.step aq ha hb;obtain⟨la,na⟩:=kA a (aW ha);obtain⟨lb,nb⟩:=kA b (aW hb);obtain⟨x0,rfl⟩:=M6 la;obtain⟨y0,rfl⟩:=M6 lb;have MC:=na x0 af;have MD:=nb y0 af;have uI:=hI.len;have GH:¬(k=es.length-1-k):=aa;have aaR:¬(es.length-1-k=k):=aa;have l1:k<fs.length:=aa;have l2:es.length-1-k<fs.length:=aa;have l3:k<es.length:=aa;have l4:es.length-1-k<es.length:=aa;simp only[go_sem,i169_l1,h0,h2,h3,hF,aL,fa,fb,w1,w2,o,l1,l3,l4,GH,MC,MD,mC];refine⟨aK,_,rfl,wD,?_⟩;exact(dq.dj rfl _).dj rfl _
 have aL:¬((k:Int)<(es.length:Int)-1-(k:Int)):=aa;simp only[go_sem,i169_l1,h2,h3,aL];refine⟨rfl,?_,dq⟩;rw[hI.done aq] at hF;exact .inr ⟨by simpa using aI,g,by rw[lJ],hF⟩
theorem aqB{al:Al}{aj:aw}{id ty:Nat}{es:List (List PV)}{c:C}(o:es=[]\/al.ok id=true)(hl:es.length<=1000000)(kA:∀e∈es,e.length=2/\ ∀v∈e,v.norm=v)(h:grown id ty 2 es (.one c) aj):
  ∃v ao,iw S 168 [.one c] al aj v ao/\Hy id ty 2 es c aj v ao:=by
 refine mV c168 (iv rfl) ?_;rcases h with ⟨rfl,h2⟩|⟨aI,g,h2,hC⟩
 .cases h2;have w0:IntKind.i64.wrap (((0:Nat):Int)-1)= -1:=ae;have hz:¬((0:Int)< -1):=ae;simp only[go_sem,i168,w0];refine cJ (fun k ak ao=>k=0/\ak 2=vi 0/\ak 3=vi (-1)/\ao=aj) 0 0 (bJ _) ?_ ?_
  .simp only[go_sem]
  rintro k ak ao _ ⟨rfl,h2,h3,rfl⟩
  simp only[go_sem,i168_l1,h2,h3,hz];exact⟨rfl,.inl ⟨rfl,rfl⟩,fun _ _=>rfl⟩
 cases h2;have o:=o.resolve_left aI;have w0:=ur (a:=es.length) aa;simp only[go_sem,i168,w0];refine cJ (fun k ak ao=>ak 0=.one (.hsl id g 2 0 es.length)/\ak 2=vi k/\ak 3=vi ((es.length:Int)-1-(k:Int))/\ ∃fs,ao id=(g,some (.arr ty 2 fs))/\xn es fs k/\Kept (· =id) aj ao) 0 es.length (bj _) ?_ ?_
 .simp only[go_sem];refine⟨rfl,af,es,hC,xn.start es,Kept.refl _ _⟩
 rintro k ak ao hk ⟨h0,h2,h3,fs,hF,hI,dq⟩
 by_cases aq:k<es.length-1-k
 .have e1:((es.length:Int)-1-(k:Int))=((es.length-1-k:Nat):Int):=aa;rw[e1] at h3;have aL:((k:Int)<((es.length-1-k:Nat):Int)):=aa;have w1:=bN (n:=k) aa;have w2:IntKind.i64.wrap (((es.length-1-k:Nat):Int)-1)=((es.length:Int)-1-((k+1:Nat):Int)):=by
   rw[ur aa];omega
  obtain⟨a,ha⟩:=aM (show k<es.length by omega);obtain⟨b,hb⟩:=aM (show es.length-1-k<es.length by omega);obtain⟨fa,fb,wD⟩:=hI.step aq ha hb;obtain⟨la,na⟩:=kA a (aW ha);obtain⟨lb,nb⟩:=kA b (aW hb);obtain⟨x0,x1,rfl⟩:=aco la;obtain⟨y0,y1,rfl⟩:=aco lb;have MC:=na x0 af;have Ui:=na x1 af;have MD:=nb y0 af;have Uj:=nb y1 af;have uI:=hI.len;have GH:¬(k=es.length-1-k):=aa;have aaR:¬(es.length-1-k=k):=aa;have l1:k<fs.length:=aa;have l2:es.length-1-k<fs.length:=aa;have l3:k<es.length:=aa;have l4:es.length-1-k<es.length:=aa;simp only[go_sem,i168_l1,h0,h2,h3,hF,aL,fa,fb,w1,w2,o,l1,l3,l4,GH,MC,Ui,MD,Uj,mC];refine⟨aK,_,rfl,wD,?_⟩;exact(dq.dj rfl _).dj rfl _
 have aL:¬((k:Int)<(es.length:Int)-1-(k:Int)):=aa;simp only[go_sem,i168_l1,h2,h3,aL];refine⟨rfl,?_,dq⟩;rw[hI.done aq] at hF;exact .inr ⟨by simpa using aI,g,by rw[lJ],hF⟩
theorem VM{site ty z:Nat}{es:List (List PV)}{c:C}{aj:aw}(h:grown site ty z es (.one c) aj):(es=[]/\iZ aj (.one c)=[])\/iZ aj (.one c)=[site]:=by
 rcases h with ⟨h1,h2⟩|⟨h1,g,h2,h3⟩
 .cases h2;exact .inl ⟨h1,NC⟩
 cases h2;exact .inr (show my aj 6 (.hsl site g z 0 es.length)=[site] from Fw (n:=5) h3)
section
variable {al:Al} {Q:dy} {ak:Env} {aj:aw} {os:List bI} {d:Option Nat}
theorem aag{f id ty z:Nat}{es:List (List PV)}{c:C}(Uu:∀ {al:Al} {aj:aw},es=[]\/al.ok id=true->grown id ty z es (.one c) aj->∃v ao,iw S f [.one c] al aj v ao/\Hy id ty z es c aj v ao)(hs:S.sites f=[f])(hg:grown id ty z es (.one c) aj)(oid:al.ok id=true)(hf:al.fs.contains f=true)
  (hK:∀ao,grown id ty z es.reverse (.one c) ao->(∀i,i≠id->ao i=aj i)->RN S al os Q (put ak d (.tup [])) ao):gP S al (.sc f [.one c]) d os Q ak aj:=by
 refine tV (P:=Hy id ty z es c aj) (holds_of ?_ ?_) (Uu ?_ hg) ?_
 .show al.fG ([V.one c].map (iZ aj)).flatten=true;rcases VM hg with ⟨_,h⟩|h
  .simp[h,Al.fG]
  simp[h,Al.fG,oid]
 .show(S.sites f).all al.fs.contains=true;rw[hs];simp only[oG,sP,hf,Ar]
 .rcases VM hg with ⟨h,_⟩|h
  .exact .inl h
  exact .inr (u9 (by simp[h]))
 rintro v ao ⟨rfl,h1,h2⟩
 exact hK ao h1 h2
end
theorem arP:S.sites 168=[168]:=ah
theorem arO:S.sites 169=[169]:=ah
theorem Wo(ok:eH F ls){x:Nat}(h:x<nD ls):aY ls x<nD ls:=Rk ok.jF ok.hp h
abbrev uf(id:Nat):Prop:=jy id=138
structure FE (ls:List Let) (fV gS idB gB g8 gF:Nat) (sp:List Bool) (f:Fc) (cd cp cf:C) (aj:aw):Prop where
 bS:aj fV=(gS,some (.arr 4 1 (bP sp)))
 bB:aj idB=(gB,some (.arr 4 1 (bP (BQ ls))))
 b8:aj 8832000000=(g8,some (.var [.p (.bool false),.p .nils,.p .nils,.p .nils,.p (.bool false)]))
 bF:aj 8832128448=(gF,some (.var [.p (.bool f.fi),cd,cp,cf,.p (.bool f.outer)]))
 gd:grown 8832512256 3 1 (nP f.bl) (.one cd) aj
 gp:grown 8832896192 vK 2 (dN f.places) (.one cp) aj
 gf:grown 8832896448 3 1 (nP f.tQ) (.one cf) aj
theorem agO(ok:eH F ls){f:Fc}{x k:Nat}(hx:x<nD ls)(h:f.bl.length<=k/\f.places.length<=k*(2*F+2)/\f.tQ.length<=k*(2*F+2)):(f.add F ls x).bl.length<=k+1/\(f.add F ls x).places.length<=(k+1)*(2*F+2)/\(f.add F ls x).tQ.length<=(k+1)*(2*F+2):=by
 obtain⟨i1,i2,i3⟩:=h;rw[Nat.succ_mul];unfold Fc.add;by_cases h:x<2*ls.length
 .rw[aD h];simp only[eG,cS,eE];exact⟨aa,aa,aa⟩
 rw[ay h];have hj:(x-2*ls.length)/2<(aB ls).length:=by unfold nD at hx;omega
 have l1:=QI ok hj;have l2:=QH ok hj;refine⟨by simp only;omega,?_,?_⟩
 .simp only[eG];split<;>(try rw[lJ])<;>omega
 simp only[eG];split<;>(try rw[lJ])<;>omega
theorem ajT{al:Al}(ok:eH F ls)(hF:F<=1000)(okf:∀id,uf id->al.ok id=true){fV gS idB gB g8 gF d:Nat}(oS:al.ok fV=true)(nS:¬uf fV)(nB:¬uf idB)(nSB:fV≠idB)(f1:al.fs.contains 168=true)(f2:al.fs.contains 169=true)(hd:d<2*ls.length){Q:dy}:
  ∀(fuel k x:Nat) (gR:List Bool) (f:Fc) (ak:Env) (aj:aw) (cd cp cf:C),ak 0=.one (.p (mI F ls))->ak 2=.one (.hsl fV gS 1 0 (2*ls.length))->ak 8=.one (.aX 8832000000 g8 0)->ak 9=vi ls.length->ak 10=vi (aB ls).length->ak 11=.one (.aX 8832128448 gF 0)->ak 12=vi x->
   FE ls fV gS idB gB g8 gF (gR.take (2*ls.length)) f cd cp cf aj->gR.length=nD ls->x<nD ls->Inv (aY ls) (nD ls) d gR x->yG gR<fuel->(k+fuel<=5000000)->(f.bl.length<=k/\f.places.length<=k*(2*F+2)/\f.tQ.length<=k*(2*F+2))->
   (∀aA ao xF mY we,aA 8=ak 8->aA 11=ak 11->FE ls fV gS idB gB g8 gF ((ff (aY ls) fuel x gR).2.take (2*ls.length)) ((ff (aY ls) fuel x gR).1.foldl (Fc.add F ls) f) xF mY we ao->(∀id,¬(uf id\/id=fV)->ao id=aj id)->Q .normal aA ao)->
   W S al (.loop i138_l1) (lN 0 Q) ak aj:=by
 have hl:=ok.hl;have gY:(aB ls).length<=1000000:=mD (sX ls ls.length) hl;have fj:nD ls<=4000000:=by unfold nD;omega
 have m2:=sL (a:=ls.length) aa;have k0:al.ok 8832000000=true:=okf _ rfl;have kF:al.ok 8832128448=true:=okf _ rfl;have kd0:al.ok 8832512192=true:=okf _ rfl;have kd:al.ok 8832512256=true:=okf _ rfl;have kp:al.ok 8832896192=true:=okf _ rfl;have kf:al.ok 8832896448=true:=okf _ rfl;have kr1:al.ok 8832640128=true:=okf _ rfl;have kr2:al.ok 8832640129=true:=okf _ rfl;have hm:=maps ok;intro fuel
 induction fuel with
 |zero=>intro k x gR f ak aj cd cp cf _ _ _ _ _ _ _ _ _ _ _ h;omega
 |succ fuel ih=>
  intro k x gR f ak aj cd cp cf h0 h2 h8 h9 fP ie kY hB I6 uO hi hu hk hlen hq;have hle:=hm.le;obtain⟨l1,l2,l3⟩:=hlen;have aaB:k*(2*F+2)<=5000000*2002:=Nat.mul_le_mul aa aa;have Jk:=agO ok uO ⟨l1,l2,l3⟩;unfold ff at hq;have nSi:∀ {a:Nat},uf a->a≠fV:=fun h e=>nS (e▸h);have nBi:∀ {a:Nat},uf a->a≠idB:=fun h e=>nB (e▸h);have nF:¬(8832128448=fV):=nSi rfl;refine kG ?_;cases hs:gR.getD x true with
  |true=>
   have hxd:=hi.i4 hs;have aq:x<2*ls.length:=aa;have aL:((x:Int)<((2*ls.length:Nat):Int)):=aa;rw[hs] at hq;simp only[if_true] at hq;have hb:(gR.take (2*ls.length))[x]?=some true:=by
    have h1:=VZ aq (show 2*ls.length<=gR.length by omega);rw[show sn gR x=true from hs,cY] at h1;have wU:x<(gR.take (2*ls.length)).length:=by rw[gT];omega
    obtain⟨b,hb⟩:=aM wU;rw[hb] at h1 ⊢;exact congrArg some h1
   have kJ:=pZ hb;simp only[go_sem,i138_l1,h0,h2,h9,kY,m2,aL,aq,hB.bS,kJ,oS];exact hq _ _ cd cp cf (by simp only[go_sem]) (by simp only[go_sem]) hB (fun _ _=>rfl)
  |false=>
   have Jv:gR[x]?=some false:=by
    rw[cY] at hs;cases h1:gR[x]? with
    |none=>rw[h1] at hs;cases hs
    |some b=>rw[h1] at hs;exact congrArg some hs
   have ER:=NV Jv;have pt:=Za ok x (by unfold nD at uO;exact uO);have cM:=hi.step hm I6 uO hs;rw[hs] at hq;simp only[dQ,if_false,uY] at hq;by_cases A1:x<2*ls.length
   .have aL:((x:Int)<((2*ls.length:Nat):Int)):=aa;have hb:(gR.take (2*ls.length))[x]?=some false:=by rw[lI,aD A1];exact Jv
    have kJ:=pZ hb;have gK:=Il (gR.take (2*ls.length)) x true;rw[afo] at gK;have Ma:f.add F ls x={f with bl:=f.bl++[x]}:=by unfold Fc.add;rw[aD A1]
    simp only[go_sem,i138_l1,h2,h9,ie,kY,m2,aL,A1,hB.bS,hB.bF,kJ,gK,oS,kF,kd0,nF];refine Pl (site:=8832512256) (id:=8832512256) (bytes:=8) (xs:=[[.int .i64 (x:Int)]]) (rd:=[8832512192]) (by simp[kd,kd0]) (hB.gd.of_eq ((aR ae).trans (aR (nSi rfl)))) (by simp[ed,aN]) (.inl rfl) (by simp only[cH,cS,eE];omega) fun c ba hc aT=>?_;have Jc:∀i,i≠8832512192->i≠8832512256->i≠fV->ba i=aj i:=fun i a b c=>(aT i b b).trans ((aR a).trans (aR c))
    have alq:=(aT fV (nSi rfl).symm (nSi rfl).symm).trans ((aR (nSi rfl).symm).trans rL);have yY:=(Jc 8832128448 ae ae (nSi rfl)).trans hB.bF;simp only[go_sem,yY,h0,ie,kY,kF,s135,LS pt];refine ih (k+1) (aY ls x) (gR.set x true) (f.add F ls x) _ _ c cp cf ?_ ?_ ?_ ?_ ?_ ?_ ?_ ?_ (by rw[tE];exact I6) (Wo ok uO) cM aa aa Jk ?_
    .simp only[go_sem,h0]
    .simp only[go_sem,h2]
    .simp only[go_sem,h8]
    .simp only[go_sem,h9]
    .simp only[go_sem,fP]
    .simp only[go_sem,ie]
    .simp only[go_sem]
    .rw[Ma];refine⟨?_,?_,?_,rL,?_,?_,?_⟩
     .exact(aR (nSi rfl).symm).trans alq
     .exact(aR (nBi rfl).symm).trans ((Jc _ (nBi rfl).symm (nBi rfl).symm nSB.symm).trans hB.bB)
     .exact(aR ae).trans ((Jc _ ae ae (nSi rfl)).trans hB.b8)
     .exact(yy _ _▸hc.of_eq (aR ae))
     .exact(hB.gp.of_eq (Jc _ ae ae (nSi rfl))).of_eq (aR ae)
     exact(hB.gf.of_eq (Jc _ ae ae (nSi rfl))).of_eq (aR ae)
    intro aA ao xF mY we q8 Ae xX dq;refine hq aA ao xF mY we (by rw[q8];simp only[go_sem]) (by rw[Ae];simp only[go_sem]) xX fun id hn=>?_;have a:∀y,uf y->id≠y:=fun y hy e=>hn (.inl (e▸hy));exact(dq id hn).trans ((aR (a _ rfl)).trans (Jc id (a _ rfl) (a _ rfl) fun e=>hn (.inr e)))
   have hj:(x-2*ls.length)/2<(aB ls).length:=by unfold nD at uO;omega
   have GO:=aqD ok hF hj;have lP:=QI ok hj;have lF:=QH ok hj;have zt:¬((x:Int)<((2*ls.length:Nat):Int)):=aa;have ws:=Rr (a:=x) (b:=2*ls.length) aa aa;have wq:=wrap_small (n:=(x-2*ls.length)/2) aa;have w2:=FL (a:=(aB ls).length) aa aa;have Gx:((((x-2*ls.length)/2:Nat):Int)==(((aB ls).length-1:Nat):Int))=decide ((x-2*ls.length)/2+1=(aB ls).length):=by
    by_cases h:(x-2*ls.length)/2+1=(aB ls).length
    .rw[DK h];simp;omega
    rw[vW h];simp;omega
   have pz:(f.add F ls x).outer=(f.outer||decide ((x-2*ls.length)/2+1=(aB ls).length)):=by unfold Fc.add;rw[ay A1]
   have TM:(f.add F ls x).fi=f.fi:=by unfold Fc.add;rw[ay A1]
   have TX:(f.add F ls x).bl=f.bl:=by unfold Fc.add;rw[ay A1]
   have GN:(f.add F ls x).places=f.places++(if x%2=0 then oz F ls ((x-2*ls.length)/2) else (oz F ls ((x-2*ls.length)/2)).reverse):=by unfold Fc.add;rw[ay A1]
   have Mo:(f.add F ls x).tQ=f.tQ++(if x%2=0 then yB F ls ((x-2*ls.length)/2) else (yB F ls ((x-2*ls.length)/2)).reverse):=by unfold Fc.add;rw[ay A1]
   generalize f.add F ls x=f' at pz TM TX GN Mo hq Jk;have iD:S.lone 8832640128=false:=ah;have sc1:∀l:List (Nat×Nat),((dN l).all fun e=>e.all PV.scalar)=true:=fun l=>by simp[PV.scalar]
   have sc2:∀l:List Nat,((nP l).all fun e=>e.all PV.scalar)=true:=fun l=>by simp[PV.scalar]
   have hnP:∀l:List (Nat×Nat),∀e∈dN l,e.length=2/\ ∀v∈e,v.norm=v:=fun l e he=>by obtain⟨a,_,rfl⟩:=dI.1 he;exact⟨rfl,fun v hv=>by simp at hv;rcases hv with rfl|rfl<;>rfl⟩
   have hnF:∀l:List Nat,∀e∈nP l,e.length=1/\ ∀v∈e,v.norm=v:=fun l e he=>by obtain⟨a,_,rfl⟩:=dI.1 he;exact⟨rfl,fun v hv=>by simp at hv;rcases hv with rfl;rfl⟩
   have shP:S.shared 168=true:=ah;have shI:S.shared 169=true:=ah;have eY:(gR.set x true).take (2*ls.length)=gR.take (2*ls.length):=afn aa;generalize oz F ls ((x-2*ls.length)/2)=PP at*;generalize yB F ls ((x-2*ls.length)/2)=FF at*;simp only[go_sem,i138_l1,h0,h9,kY,m2,zt,ws,wq,dS,fp,s167];refine akB (by simp[kr1,kr2]) GO iD (sc1 _) (sc2 _) fun c e cn hc he hb=>?_;by_cases dR:x%2=0
   .have CJ:((x:Int).tmod 2==1)=false:=by rw[iL,dR];rfl
    rw[aD dR] at GN Mo;have hP:=hc;have hE:=he;have Cm:∀i,i≠8832640128->i≠8832640129->cn i=aj i:=hb;have bFN:=(Cm 8832128448 ae ae).trans hB.bF;simp only[go_sem,dS,CJ,bFN,ie,kY,kF];obtain⟨rP,GY,MO⟩:=hP.elems;refine F8 (site:=8832896192) (id:=8832896192) (bytes:=16) (by rcases MO with rfl|rfl<;>simp[kp,kr1]) (hB.gp.of_eq (Cm _ ae ae)) GY hP.eo (by simp only[cH];omega) fun c2 vc r1 u1 lS eT ig=>?_
    have yY:=(eT 8832128448 ae ae).trans bFN;simp only[go_sem,yY,ie,kF];obtain⟨rE,GX,MN⟩:=(hE.of_eq (eT _ ae ae)).elems;refine F8 (site:=8832896448) (id:=8832896448) (bytes:=8) (by rcases MN with rfl|rfl<;>simp[kf,kr2]) (hB.gf.of_eq ((eT _ ae ae).trans (Cm _ ae ae))) GX hE.eo (by simp only[cH];omega) fun c3 BT r2 u2 wG Eu r9=>?_
    have uz:=(Eu 8832128448 ae ae).trans yY;have cV:∀i,i≠8832640128->i≠8832640129->i≠8832896192->i≠8832896448->BT i=aj i:=fun i a b c d=>(Eu i d d).trans ((eT i c c).trans (Cm i a b));have TQ:grown 8832896192 vK 2 (dN f'.places) (.one c2) BT:=by rw[GN,Ad];exact lS.of_eq (Eu _ ae ae)
    have TR:grown 8832896448 3 1 (nP f'.tQ) (.one c3) BT:=by rw[Mo,yy];exact wG
    clear lS wG;cases ho:f.outer;all_goals
     rw[ho] at uz;simp only[go_sem,uz,h0,fP,ie,kY,kF,w2,Gx,s135,LS pt];refine⟨?_,?_⟩
     .rcases MO with rfl|rfl<;>rcases MN with rfl|rfl<;>rcases ig with ⟨rfl,rfl⟩|⟨rfl,rfl⟩|⟨rfl,rfl⟩<;>rcases r9 with ⟨rfl,rfl⟩|⟨rfl,rfl⟩|⟨rfl,rfl⟩<;>kernel_rfl
     refine ih (k+1) (aY ls x) (gR.set x true) f' _ _ cd c2 c3 ?_ ?_ ?_ ?_ ?_ ?_ ?_ ?_ (by rw[tE];exact I6) (Wo ok uO) cM aa aa Jk ?_
     .simp only[go_sem,h0]
     .simp only[go_sem,h2]
     .simp only[go_sem,h8]
     .simp only[go_sem,h9]
     .simp only[go_sem,fP]
     .simp only[go_sem,ie]
     .simp only[go_sem]
     .rw[eY];refine⟨?_,?_,?_,?_,?_,?_,?_⟩
      .exact(aR (nSi rfl).symm).trans ((aR (nSi rfl).symm).trans ((aR (nSi rfl).symm).trans ((cV _ (nSi rfl).symm (nSi rfl).symm (nSi rfl).symm (nSi rfl).symm).trans hB.bS)))
      .exact(aR (nBi rfl).symm).trans ((aR (nBi rfl).symm).trans ((aR (nBi rfl).symm).trans ((cV _ (nBi rfl).symm (nBi rfl).symm (nBi rfl).symm (nBi rfl).symm).trans hB.bB)))
      .exact(aR ae).trans ((aR ae).trans ((aR ae).trans ((cV _ ae ae ae ae).trans hB.b8)))
      .rw[rL,TM,pz,ho];rfl
      .rw[TX];exact hB.gd.of_eq ((aR ae).trans ((aR ae).trans ((aR ae).trans (cV _ ae ae ae ae))))
      .exact TQ.of_eq ((aR ae).trans ((aR ae).trans (aR ae)))
      exact TR.of_eq ((aR ae).trans ((aR ae).trans (aR ae)))
     intro aA ao xF mY we q8 Ae xX dq;refine hq aA ao xF mY we (by rw[q8];simp only[go_sem]) (by rw[Ae];simp only[go_sem]) xX fun id hn=>?_;have a:∀y,uf y->id≠y:=fun y hy e=>hn (.inl (e▸hy));exact(dq id hn).trans ((aR (a _ rfl)).trans ((aR (a _ rfl)).trans ((aR (a _ rfl)).trans (cV id (a _ rfl) (a _ rfl) (a _ rfl) (a _ rfl)))))
   have CJ:((x:Int).tmod 2==1)=true:=by rw[iL,show x%2=1 by omega];rfl
   rw[ay dR] at GN Mo;simp only[go_sem,dS,CJ,kY,shP];refine aag (f:=168) (fun o h=>aqB o (by simp only[cH];omega) (hnP _) h) arP hc kr1 f1 fun ba jr aT=>?_;simp only[go_sem,shI];refine aag (f:=169) (fun o h=>aqz o (by simp only[cH];omega) (hnF _) h) arO (he.of_eq (aT _ ae)) kr2 f2 fun fN he1 ef=>?_;have hP:grown 8832640128 vK 2 (dN PP.reverse) (.one c) fN:=by rw[dN,List.map_reverse];exact jr.of_eq (ef _ ae)
   have hE:grown 8832640129 3 1 (nP FF.reverse) (.one e) fN:=by rw[nP,List.map_reverse];exact he1
   have Cm:∀i,i≠8832640128->i≠8832640129->fN i=aj i:=fun i a b=>(ef i b).trans ((aT i a).trans (hb i a b));have bFN:=(Cm 8832128448 ae ae).trans hB.bF;simp only[go_sem,bFN,ie,kF];obtain⟨rP,GY,MO⟩:=hP.elems;refine F8 (site:=8832896192) (id:=8832896192) (bytes:=16) (by rcases MO with rfl|rfl<;>simp[kp,kr1]) (hB.gp.of_eq (Cm _ ae ae)) GY hP.eo (by simp only[cH,lJ];omega) fun c2 vc r1 u1 lS eT ig=>?_
   have yY:=(eT 8832128448 ae ae).trans bFN;simp only[go_sem,yY,ie,kF];obtain⟨rE,GX,MN⟩:=(hE.of_eq (eT _ ae ae)).elems;refine F8 (site:=8832896448) (id:=8832896448) (bytes:=8) (by rcases MN with rfl|rfl<;>simp[kf,kr2]) (hB.gf.of_eq ((eT _ ae ae).trans (Cm _ ae ae))) GX hE.eo (by simp only[cH,lJ];omega) fun c3 BT r2 u2 wG Eu r9=>?_
   have uz:=(Eu 8832128448 ae ae).trans yY;have cV:∀i,i≠8832640128->i≠8832640129->i≠8832896192->i≠8832896448->BT i=aj i:=fun i a b c d=>(Eu i d d).trans ((eT i c c).trans (Cm i a b));have TQ:grown 8832896192 vK 2 (dN f'.places) (.one c2) BT:=by rw[GN,Ad];exact lS.of_eq (Eu _ ae ae)
   have TR:grown 8832896448 3 1 (nP f'.tQ) (.one c3) BT:=by rw[Mo,yy];exact wG
   clear lS wG;cases ho:f.outer;all_goals
    rw[ho] at uz;simp only[go_sem,uz,h0,fP,ie,kY,kF,w2,Gx,s135,LS pt];refine⟨?_,?_⟩
    .rcases MO with rfl|rfl<;>rcases MN with rfl|rfl<;>rcases ig with ⟨rfl,rfl⟩|⟨rfl,rfl⟩|⟨rfl,rfl⟩<;>rcases r9 with ⟨rfl,rfl⟩|⟨rfl,rfl⟩|⟨rfl,rfl⟩<;>kernel_rfl
    refine ih (k+1) (aY ls x) (gR.set x true) f' _ _ cd c2 c3 ?_ ?_ ?_ ?_ ?_ ?_ ?_ ?_ (by rw[tE];exact I6) (Wo ok uO) cM aa aa Jk ?_
    .simp only[go_sem,h0]
    .simp only[go_sem,h2]
    .simp only[go_sem,h8]
    .simp only[go_sem,h9]
    .simp only[go_sem,fP]
    .simp only[go_sem,ie]
    .simp only[go_sem]
    .rw[eY];refine⟨?_,?_,?_,?_,?_,?_,?_⟩
     .exact(aR (nSi rfl).symm).trans ((aR (nSi rfl).symm).trans ((aR (nSi rfl).symm).trans ((cV _ (nSi rfl).symm (nSi rfl).symm (nSi rfl).symm (nSi rfl).symm).trans hB.bS)))
     .exact(aR (nBi rfl).symm).trans ((aR (nBi rfl).symm).trans ((aR (nBi rfl).symm).trans ((cV _ (nBi rfl).symm (nBi rfl).symm (nBi rfl).symm (nBi rfl).symm).trans hB.bB)))
     .exact(aR ae).trans ((aR ae).trans ((aR ae).trans ((cV _ ae ae ae ae).trans hB.b8)))
     .rw[rL,TM,pz,ho];rfl
     .rw[TX];exact hB.gd.of_eq ((aR ae).trans ((aR ae).trans ((aR ae).trans (cV _ ae ae ae ae))))
     .exact TQ.of_eq ((aR ae).trans ((aR ae).trans (aR ae)))
     exact TR.of_eq ((aR ae).trans ((aR ae).trans (aR ae)))
    intro aA ao xF mY we q8 Ae xX dq;refine hq aA ao xF mY we (by rw[q8];simp only[go_sem]) (by rw[Ae];simp only[go_sem]) xX fun id hn=>?_;have a:∀y,uf y->id≠y:=fun y hy e=>hn (.inl (e▸hy));exact(dq id hn).trans ((aR (a _ rfl)).trans ((aR (a _ rfl)).trans ((aR (a _ rfl)).trans (cV id (a _ rfl) (a _ rfl) (a _ rfl) (a _ rfl)))))
structure bQ (F:Nat) (ls:List Let):Prop where
 ok:eH F ls
 len:ls.length<=400
 cr:aC Let.aG ls<=200
 fing:F<=40
 ne:ls≠[]
 first:∃l,ls[0]?=some l/\l.aJ=true
 even:aC Let.aJ ls%2=0
 bad:∀l∈ls,dA F l=false
 chk:di F ls=0
 nw:pN ls=aC Let.aJ ls+aC Let.aG ls/2+2
theorem xM{f:Int}(h:di f ls=0)(aI:ls≠[]):∃F:Nat,f=(F:Int)/\bQ F ls:=by
 have h0:=h;unfold di at h;by_cases h1:400<ls.length\/200<aC Let.aG ls
 .rw[aD h1] at h;cases h
 rw[ay h1] at h;by_cases h2:f<0\/40<f
 .rw[aD h2] at h;cases h
 rw[ay h2,ay aI] at h;cases hv:lG f ls with
 |false=>rw[hv] at h;simp at h
 |true=>
  obtain⟨F,rfl⟩:=uu (show 0<=f by omega);refine⟨F,rfl,?_⟩;unfold lG at hv;simp only[cN] at hv;obtain⟨⟨⟨v1,v2⟩,v3⟩,v4⟩:=hv;obtain⟨cq,mv,fU⟩:=U1.1 v3;have vl:∀l∈ls,dA F l=false:=fun l hl=>by simpa using HO.1 cq l hl
  have hg:qY F ls:=fun l hl hp=>((xg hp).1 (vl l hl)).1.1.1;obtain⟨g1,g2⟩:=(NA hg).1 mv;obtain⟨l0,tY⟩:=aM (jl.2 aI);rw[tY] at v1;exact⟨⟨aa,⟨g1,g2⟩,fU,fun l hl=>AN (vl l hl)⟩,aa,aa,aa,aI,⟨l0,tY,v1⟩,by simpa using v2,vl,h0,by simpa using v4⟩
theorem bQ.axne(g:bQ F ls):aB ls≠[]:=by obtain⟨l,h1,h2⟩:=g.first;exact af8 (sY.2 ⟨l,h1,h2⟩)
def ZG(F:Nat)(ls:List Let)(fV gS:Nat)(x:Nat)(gR:List Bool)(aj:aw)(v:V)(ao:aw):Prop:=
 ∃f cd cp cf,f=((ff (aY ls) (nD ls+1) x gR).1).foldl (Fc.add F ls) (Fc.new ls x)/\v=.agg [.p (.bool f.fi),cd,cp,cf,.p (.bool f.outer)]/\ao fV=(gS,some (.arr 4 1 (bP ((ff (aY ls) (nD ls+1) x gR).2.take (2*ls.length)))))/\
  grown 8832512256 3 1 (nP f.bl) (.one cd) ao/\grown 8832896192 vK 2 (dN f.places) (.one cp) ao/\grown 8832896448 3 1 (nP f.tQ) (.one cf) ao/\Kept (fun id=>uf id\/id=fV) aj ao
theorem ajW{al:Al}{F:Nat}{ls:List Let}(ok:eH F ls)(hF:F<=1000)(okf:∀id,uf id->al.ok id=true){fV gS idB gB x:Nat}(oS:al.ok fV=true)(oB:al.ok idB=true)(nS:¬uf fV)(nB:¬uf idB)(nSB:fV≠idB)(f1:al.fs.contains 168=true)(f2:al.fs.contains 169=true){gR:List Bool}{aj:aw}
  (hx:x<2*ls.length) (I6:gR.length=nD ls) (cP:KZ (aY ls) (nD ls) gR) (hs:gR.getD x true=false) (bS:aj fV=(gS,some (.arr 4 1 (bP (gR.take (2*ls.length)))))) (bB:aj idB=(gB,some (.arr 4 1 (bP (BQ ls))))):
  ∃v ao,iw S 138 [.one (.p (mI F ls)),vi x,.one (.hsl fV gS 1 0 (2*ls.length)),.one (.hsl idB gB 1 0 ls.length)] al aj v ao/\ZG F ls fV gS x gR aj v ao:=by
 have hl:=ok.hl;have gY:(aB ls).length<=ls.length:=sX ls ls.length;have fj:nD ls<=4000000:=by unfold nD;omega
 have k0:al.ok 8832000000=true:=okf _ rfl;have kF:al.ok 8832128448=true:=okf _ rfl;have wq:=wrap_small (n:=x/2) aa;have qw:x/2<ls.length:=aa;have ak6:=pZ (ahN qw);have nSi:∀ {a:Nat},uf a->a≠fV:=fun h e=>nS (e▸h);have nBi:∀ {a:Nat},uf a->a≠idB:=fun h e=>nB (e▸h);have nB0:¬(idB=8832000000):=fun e=>nBi rfl e.symm
 have hul:=KB gR;refine mV c138 (iv rfl) ?_;simp only[go_sem,i138,bB,nB0,k0,kF,oB,dS,fp,wq,qw,ak6];refine⟨aK,?_⟩;refine ajT ok hF okf (fV:=fV) (gS:=gS) (idB:=idB) (gB:=gB) (g8:=(aj 8832000000).1+1) (gF:=(aj 8832128448).1+1) (d:=x) oS nS nB nSB f1 f2 hx (nD ls+1) 0 x gR (Fc.new ls x) _ _ (.p .nils) (.p .nils) (.p .nils) ?_ ?_ ?_ ?_ ?_ ?_ ?_ ?_ I6 (by unfold nD;omega) (Inv.start cP hs) aa aa ⟨bJ _,bj _,bj _⟩ ?_
 .simp only[go_sem]
 .simp only[go_sem]
 .simp only[go_sem]
 .simp only[go_sem]
 .simp only[go_sem]
 .simp only[go_sem]
 .simp only[go_sem]
 .refine⟨?_,?_,?_,?_,grown.nil,grown.nil,grown.nil⟩
  .simp only[aR (nSi (a:=8832000000) rfl).symm,aR (nSi (a:=8832128448) rfl).symm,bS]
  .simp only[aR (nBi (a:=8832000000) rfl).symm,aR (nBi (a:=8832128448) rfl).symm,bB]
  .simp only[go_sem]
  simp only[go_sem,Fc.new]
 intro aA ao xF mY we q8 Ae xX dq;simp only[go_sem] at q8 Ae;have h8:=xX.b8;have hf:=xX.bF;simp only[go_sem,i138_r2,q8,Ae,h8,hf,k0,kF];refine⟨_,xF,mY,we,rfl,rfl,?_,?_,?_,?_,fun id hn=>?_⟩
 .exact(aR (nSi rfl).symm).trans xX.bS
 .exact xX.gd.of_eq (aR ae)
 .exact xX.gp.of_eq (aR ae)
 .exact xX.gf.of_eq (aR ae)
 have a:∀y,uf y->id≠y:=fun y hy e=>hn (.inl (e▸hy));refine(aR (a _ rfl)).trans ((dq id hn).trans ?_);simp only[aR (a 8832000000 rfl),aR (a 8832128448 rfl)]
theorem LZ{s1 t1 z1:Nat}{es:List (List PV)}{c:C}{x:PV}{aj:aw}(h:grown s1 t1 z1 es (.one c) aj):gh aj (.tup [.one c,.one (.p x)])=some (.tup [.one (aO t1 z1 es),.one (.p x)]):=by obtain⟨c',o,hc,h2,h3⟩:=h.gQ;cases hc;rcases h3 with rfl|rfl<;>simp[gh,nL,tU,kI,kh,h2,(show Go.Abs.gQ aj (.p x)=some (.p x,[],[]) from rfl),apart,sI,pQ,Bp]
theorem NB{aj:aw}{id g g0 z o l ty sz:Nat}{es:List (List PV)}(h:aj id=(g0,some (.arr ty sz es))):iZ aj (.one (.hsl id g z o l))=[id]:=(Fw h:my aj 6 (.hsl id g z o l)=[id])
theorem arL:(S.sites 138).contains 138=true:=ah
theorem arM:(S.sites 138).contains 168=true:=ah
theorem arN:(S.sites 138).contains 169=true:=ah
theorem afm{S:List Bool}{n k:Nat}{b:Bool}(hk:k<n)(hn:n<=S.length)(h:S.getD k true=b):(S.take n)[k]?=some b:=by rw[lI,aD hk];rw[cY] at h;obtain⟨c,hc⟩:=aM (show k<S.length by omega);rw[hc] at h ⊢;exact congrArg some h
theorem aj0(g:bQ F ls):aF S 112 [cZ F ls] (.tup [.one (aO tP 5 (jR (dh F ls))),.one (.p (.int .i64 0))]):=by
 have ok:=g.ok;have hl:=ok.hl;have hF:F<=1000:=by have:=g.fing;omega
 have gY:(aB ls).length<=ls.length:=sX ls ls.length;have hlen:=g.len;have fj:nD ls<=4000000:=by unfold nD;omega
 have h2n:2*ls.length<=nD ls:=by unfold nD;omega
 have pr:=QR F ls hl;rw[NG g.chk,ay g.ne,FN] at pr;have pb:=ahP ok;have hm:=maps ok;have m2:=sL (a:=ls.length) aa;have j9:2*ls.length<=140737488355328:=aa;have zO:List.replicate (2*ls.length) [PV.bool false]=bP ((dz (aY ls) (nD ls) 0).2.take (2*ls.length)):=by show _=bP ((List.replicate (nD ls) false).take (2*ls.length));rw[List.take_replicate,yO h2n];simp
 have hLB:∀aj:aw,land aj [] 7168384064 ((RV.one (.own 4 1 (bP (BQ ls)))).eD (S.lone 7168384064))=some (.one (.hsl 7168384064 ((aj 7168384064).1+1) 1 0 ls.length),[(7168384064,((aj 7168384064).1+1,some (.arr 4 1 (bP (BQ ls)))))]):=by intro aj;rw[show S.lone 7168384064=false by kernel_rfl];show some (V.one (.hsl 7168384064 ((aj 7168384064).1+1) 1 0 (bP (BQ ls)).length),_)=_;rw[show(bP (BQ ls)).length=ls.length by simp[uA]];rfl
 have lU:S.shared 138=true:=ah;refine aV c112 ?_;simp only[go_sem,i112,s35,cU pr mw,s137,cU pb (hLB _),m2,j9,zO];refine cJ (fun k ak aj=>ak 4=.one (.p (mI F ls))/\ak 7=.one (.hsl 7168320448 1 1 0 (2*ls.length))/\ak 8=.one (.hsl 7168384064 1 1 0 ls.length)/\ak 29=vi ((2*ls.length:Nat):Int)/\ak 30=vi k/\
   aj 7168320448=(1,some (.arr 4 1 (bP ((dz (aY ls) (nD ls) k).2.take (2*ls.length)))))/\aj 7168384064=(1,some (.arr 4 1 (bP (BQ ls))))/\
   ∃vo,ak 6=.one vo/\grown 7168704448 tP 5 (jR ((dz (aY ls) (nD ls) k).1.map (gC F ls))) (.one vo) aj) 0 (2*ls.length) (bj _) ?_ ?_
 .simp only[go_sem];first|exact⟨rfl,rfl,rfl,_,rfl,.inl ⟨rfl,rfl⟩⟩|exact⟨rfl,rfl,_,rfl,.inl ⟨rfl,rfl⟩⟩|exact⟨rfl,_,rfl,.inl ⟨rfl,rfl⟩⟩|exact⟨rfl,rfl,rfl,rfl,_,rfl,.inl ⟨rfl,rfl⟩⟩
 rintro k ak aj hk ⟨h4,h7,h8,h29,h30,bS,bB,vo,h6,go⟩
 by_cases aq:k<2*ls.length
 .have aL:((k:Int)<((2*ls.length:Nat):Int)):=aa;have w1:=bN (n:=k) aa;obtain⟨cP,_⟩:=Rp hm k aa;have T8:=HH (aY ls) (nD ls) k;have EJ:=KD (aY ls) (nD ls) k;have cM:=yH (aY ls) (nD ls) k;generalize hw:dz (aY ls) (nD ls) k=st at*;obtain⟨o,gR⟩:=st;simp only at cP T8 EJ bS go;unfold uX at cM;cases hs:gR.getD k true with
  |true=>simp only[hs,if_true] at cM;have hb:=pZ (afm aq aa hs);simp only[go_sem,i112_l1,h4,h6,h7,h8,h29,h30,bS,bB,aq,aL,hb,w1,cM];exact⟨vo,rfl,go⟩
  |false=>
   simp only[hs,dQ,if_false,T8] at cM;have hb:=pZ (afm aq aa hs);obtain⟨t,ht⟩:=afG (aY ls) (k:=nD ls) hs;have yi:((ff (aY ls) (nD ls+1) k gR).1).foldl (Fc.add F ls) (Fc.new ls k)=gC F ls (ff (aY ls) (nD ls+1) k gR).1:=by unfold gC;rw[ht];rfl
   have dV:=ZE (F:=F) (t:=t) aq;rw[<- ht] at dV;simp only[go_sem,i112_l1,h4,h6,h7,h8,h29,h30,bS,bB,aq,aL,hb,lU];have aa1:iZ aj (.one (.hsl 7168320448 1 1 0 (2*ls.length)))=[7168320448]:=NB bS;have MP:iZ aj (.one (.hsl 7168384064 1 1 0 ls.length))=[7168384064]:=NB bB;refine tV (P:=ZG F ls 7168320448 1 k gR aj) zK (ajW ok hF (fun id h=>vY (by rw[h];exact arL)) (u9 ?_) (u9 ?_) ae ae ae ?_ ?_ aq T8 cP hs bS bB) ?_
   .simp only[fy,lH,aa1,MP];simp
   .simp only[fy,lH,aa1,MP];simp
   .exact arM
   .exact arN
   rintro v cn ⟨f,cd,cp,cf,hf,rfl,bS1,gd,gp,gf,dq⟩
   rw[yi] at hf;rw[<- hf] at dV;have Le:=(dq 7168384064 ae).trans bB;have go1:=go.of_eq (dq 7168704448 ae);have pz:jR (o.map (gC F ls))++[f.ps]=jR ((dz (aY ls) (nD ls) (k+1)).1.map (gC F ls)):=by rw[cM,hf];simp
   have hS2:(dz (aY ls) (nD ls) (k+1)).2=(ff (aY ls) (nD ls+1) k gR).2:=by rw[cM]
   have al0:(jR (o.map (gC F ls))).length<=k:=by simpa using EJ
   generalize jR (o.map (gC F ls))=outs at go1 pz al0;have gd0:=gd;rcases gd with ⟨e,_⟩|⟨_,gg,e,hbd⟩
   .simp at e;exact absurd e dV
   cases e;simp only[go_sem];rw[cH] at gd0;obtain⟨fr,hx,vr,yh⟩:=Zk (aj:=dj cn 7168704384 ((cn 7168704384).1+1,some (.gU tP 5 [[.p (.bool f.fi),.hsl 8832512256 gg 1 0 f.bl.length,cp,cf,.p (.bool f.outer)]]))) (s:=7168704384) rL (gd0.of_eq (aR ae)) (gp.of_eq (aR ae)) (gf.of_eq (aR ae));have nf:∀i,i≠8832512256->i≠8832896192->i≠8832896448->i∉fr:=fun i a b c h=>by
    rcases yh i h with h|h|h
    .exact a h
    .exact b h
    exact c h
   refine Z9 (site:=7168704448) (id:=7168704448) (bytes:=88) (go1.of_eq (aR ae)) hx vr (nf _ ae ae ae) (nf _ ae ae ae) (.inl rfl) (by simp only[cS,eE];omega) fun c ba hc aT=>?_;have BS':=(aT 7168320448 ae ae (nf _ ae ae ae)).trans ((aR ae).trans bS1);have BB':=(aT 7168384064 ae ae (nf _ ae ae ae)).trans ((aR ae).trans Le);simp only[go_sem,h4,h6,h7,h8,h29,h30,BS',BB',w1,aq,hS2];refine⟨c,rfl,?_⟩;rw[<- pz];exact hc
 have:k=2*ls.length:=aa;subst this;simp only[go_sem,i112_l1,i112_r2,h6,h29,h30,dG];have:=Ww hm (nD ls) h2n (bJ _);unfold dh eh;rw[this];exact LZ go
structure Pc where
 l:Let
 d:Bool
def Pc.ps(p:Pc):List PV:=[.int .i64 p.l.kind,.int .i64 p.l.gate,.int .i64 p.l.aE,.int .i64 p.l.id,.int .i64 p.l.sign,.bool p.l.over,.bool p.d]
abbrev jk(o:List Pc):List (List PV):=o.map Pc.ps
abbrev xh:Nat:=174
def kO:Let:=⟨0,0,0,0,0,false⟩
def pieces(ls:List Let):List Pc:=(List.range ls.length).map fun i=>⟨ls.getD i kO,iz ls i⟩
theorem jJ(ls:List Let):(pieces ls).length=ls.length:=by simp[pieces]
theorem pP{i:Nat}{l:Let}(h:ls[i]?=some l):(pieces ls)[i]?=some ⟨l,iz ls i⟩:=by have:=(bg.1 h).1;simp only[pieces,fT,rO this,kU,cY,h,lZ]
theorem rG{o:List Pc}{k:Nat}{p:Pc}(h:o[k]?=some p):(jk o)[k]?=some p.ps:=by simp[h]
def oF(L:List Nat)(ds:List Nat)(v:Nat):List Nat:=ds.foldl (fun L d=>L.set d v) L
def qA:List Fc->Nat->List Nat->List Nat
 |[],_,L=>L
 |f::r,j,L=>qA r (j+1) (oF L f.bl j)
def ou(F:Nat)(ls:List Let):List Nat:=qA (dh F ls) 0 (List.replicate (2*ls.length) 0)
theorem NH(L ds:List Nat)(v:Nat):(oF L ds v).length=L.length:=by
 induction ds generalizing L with
 |nil=>rfl
 |cons d ds ih=>show(oF (L.set d v) ds v).length=_;rw[ih];simp
theorem aq2(L a b:List Nat)(v:Nat):oF L (a++b) v=oF (oF L a v) b v:=by simp[oF]
theorem Qi(fs:List Fc):∀(j:Nat) (L:List Nat),(qA fs j L).length=L.length:=by
 induction fs with
 |nil=>intro j L;rfl
 |cons f r ih=>intro j L;show(qA r (j+1) _).length=_;rw[ih,NH]
theorem anm(a:List Fc)(f:Fc):∀(j:Nat) (L:List Nat),qA (a++[f]) j L=oF (qA a j L) f.bl (j+a.length):=by
 induction a with
 |nil=>intro j L;rfl
 |cons g r ih=>intro j L;show qA (r++[f]) (j+1) _=_;rw[ih];simp[qA];congr 1;omega
theorem agL(F:Nat)(ls:List Let):∀(w:List Nat) (f:Fc),(w.foldl (Fc.add F ls) f).bl=f.bl++w.filter (fun x=>decide (x<2*ls.length)):=by
 intro w
 induction w with
 |nil=>intro f;simp
 |cons x w ih=>
  intro f;rw[uY,ih];unfold Fc.add;by_cases h:x<2*ls.length
  .rw[aD h,List.filter_cons_of_pos (by simpa using h)];simp
  rw[ay h,List.filter_cons_of_neg (by simpa using h)]
theorem Ef(F:Nat)(ls:List Let)(w:List Nat):(gC F ls w).bl=w.filter (fun x=>decide (x<2*ls.length)):=by unfold gC;rw[agL];rfl
theorem Tl{f:Fc}(h:f∈dh F ls):∀d∈f.bl,d<2*ls.length:=by
 obtain⟨w,_,rfl⟩:=dI.1 h;intro d hd;rw[Ef] at hd
 simpa using (vS.1 hd).2
theorem O9(ok:eH F ls){f:Fc}(h:f∈dh F ls):f.bl.length<=nD ls:=by obtain⟨w,hw,rfl⟩:=dI.1 h;rw[Ef];exact mD (List.length_filter_le _ _) (KE ok w hw).2.1
theorem Tm(F:Nat)(ls:List Let):(dh F ls).length=pN ls:=by simp[dh,pN]
theorem Pa{o:List Fc}{k:Nat}{p:Fc}(h:o[k]?=some p):(jR o)[k]?=some p.ps:=by simp[h]
abbrev fO(F:Nat)(ls:List Let):PV:=.box [.int .i64 F,.sl (jk (pieces ls)),.sl (jR (dh F ls)),.sl (nP (ou F ls)),.int .i64 (aC Let.aJ ls:Nat),.int .i64 ((aC Let.aG ls/2:Nat):Int),.sl (nP (counts ls F))]
abbrev Lj(F:Nat)(ls:List Let)(pc cf:C):List C:=[.p (.int .i64 F),pc,cf,.hsl 4864256448 1 1 0 (2*ls.length),.p (.int .i64 (aC Let.aJ ls:Nat)),.p (.int .i64 ((aC Let.aG ls/2:Nat):Int)),.hsl 4864256960 1 1 0 (F+1)]
theorem aoK{F:Nat}{ls:List Let}(g:bQ F ls){pc cf:C}{ak:Env}{aj:aw}{Q:dy}(h4:ak 4=.one cf)(h6:ak 6=.one (.aX 4864257088 1 0))
  (bB:aj 4864257088=(1,some (.var (Lj F ls pc cf)))) (bL:aj 4864256448=(1,some (.arr 3 1 (nP (List.replicate (2*ls.length) 0))))) (bC:aj 4864256960=(1,some (.arr 3 1 (nP (counts ls F))))) (gp:grown 4864896448 xh 7 (jk (pieces ls)) (.one pc) aj) (gf:grown 4864064064 tP 5 (jR (dh F ls)) (.one cf) aj)
  (hq:∀aA ao,aA 6=ak 6->ao 4864257088=(1,some (.var (Lj F ls pc cf)))->ao 4864256448=(1,some (.arr 3 1 (nP (ou F ls))))->ao 4864256960=(1,some (.arr 3 1 (nP (counts ls F))))->grown 4864896448 xh 7 (jk (pieces ls)) (.one pc) ao->grown 4864064064 tP 5 (jR (dh F ls)) (.one cf) ao->W S .all i76_r5 Q aA ao):
  W S .all i76_r6 Q ak aj:=by
 have ok:=g.ok;have hl:=ok.hl;have hlen:=g.len;have gY:(aB ls).length<=ls.length:=sX ls ls.length;have fj:nD ls<=4000000:=by unfold nD;omega
 have uI:(dh F ls).length<=nD ls:=by rw[dh,cH];exact KD (aY ls) (nD ls) _
 obtain⟨g0,TT⟩:∃gg,cf=.hsl 4864064064 gg 5 0 (dh F ls).length:=by
  rcases gf with ⟨e,_⟩|⟨_,gg,e,hb⟩
  .have h1:(dh F ls).length=0:=by simpa using congrArg List.length e
   rw[Tm,g.nw] at h1;omega
  cases e;exact⟨gg,by rw[cH]⟩
 have uE:=h4;rw[TT] at uE;simp only[go_sem,i76_r6,uE];refine cJ (fun k aA ao=>aA 6=ak 6/\aA 78=.one cf/\aA 79=vi (dh F ls).length/\aA 80=vi k/\ao 4864257088=(1,some (.var (Lj F ls pc cf)))/\ao 4864256448=(1,some (.arr 3 1 (nP (qA ((dh F ls).take k) 0 (List.replicate (2*ls.length) 0)))))/\ao 4864256960=(1,some (.arr 3 1 (nP (counts ls F))))/\
   grown 4864896448 xh 7 (jk (pieces ls)) (.one pc) ao/\grown 4864064064 tP 5 (jR (dh F ls)) (.one cf) ao) 0 (dh F ls).length (bj _) ?_ ?_
 .simp only[go_sem,bB,bL,bC,qA,TT];exact⟨rfl,gp,by first|exact gf|(rw[<- TT];exact gf)⟩
 rintro k aA ao hk ⟨q6,h78,h79,h80,bB,bL,bC,gp,gf⟩
 rw[h6] at q6;by_cases aq:k<(dh F ls).length
 .have aL:((k:Int)<((dh F ls).length:Int)):=aa;obtain⟨f,hf⟩:=aM aq;have Gz:=Pa hf;have qn:=aW hf;have Cr:=O9 ok qn;have hdd:=Tl qn;have w1:=bN (n:=k) aa;have eY:qA ((dh F ls).take (k+1)) 0 (List.replicate (2*ls.length) 0)=oF (qA ((dh F ls).take k) 0 (List.replicate (2*ls.length) 0)) f.bl k:=by
   rw[iu,hf];show qA (_++[f]) 0 _=_;rw[anm,gT,yO aa,jm]
  have hLl:(qA ((dh F ls).take k) 0 (List.replicate (2*ls.length) 0)).length=2*ls.length:=by rw[Qi,WT]
  generalize qA ((dh F ls).take k) 0 (List.replicate (2*ls.length) 0)=L at bL eY hLl;obtain⟨gg,vm,bf⟩:∃gg,cf=.hsl 4864064064 gg 5 0 (jR (dh F ls)).length/\ao 4864064064=(gg,some (.arr tP 5 (jR (dh F ls)))):=by
   rcases gf with ⟨e,_⟩|⟨_,gg,e,hb⟩
   .have:(dh F ls).length=0:=by simpa using congrArg List.length e
    omega
   cases e;exact⟨gg,rfl,hb⟩
  rw[cH] at vm;have TJ:=h78;rw[vm] at TJ;simp only[go_sem,i76_l4,TJ,h79,h80,bf,Gz,Fc.ps,aq,aL];refine cJ (fun j dp ba=>dp 6=.one (.aX 4864257088 1 0)/\dp 11=vi k/\dp 78=.one cf/\dp 79=vi (dh F ls).length/\dp 80=vi k/\dp 86=.one (.p (.sl (nP f.bl)))/\dp 87=vi f.bl.length/\dp 88=vi j/\
   ba 4864257088=(1,some (.var (Lj F ls pc cf)))/\ba 4864256448=(1,some (.arr 3 1 (nP (oF L (f.bl.take j) k))))/\ba 4864256960=(1,some (.arr 3 1 (nP (counts ls F))))/\grown 4864896448 xh 7 (jk (pieces ls)) (.one pc) ba/\grown 4864064064 tP 5 (jR (dh F ls)) (.one cf) ba) 0 f.bl.length (bj _) ?_ ?_
  .simp only[go_sem,q6,vm,TJ,h79,h80,bB,bL,bC,oF,Oh];refine⟨rfl,gp.of_eq (aR ae),?_⟩;first|exact gf.of_eq (aR ae)|(rw[<- vm];exact gf.of_eq (aR ae))
  rintro j dp ba hj ⟨p6,p11,p78,p79,p80,p86,p87,p88,cB,cL,cC,cp,cg⟩
  by_cases wP:j<f.bl.length
  .have PE:((j:Int)<(f.bl.length:Int)):=aa;obtain⟨d,hd⟩:=aM wP;have mq:=iF hd;have hdb:=hdd d (aW hd);have w2:=bN (n:=j) aa;have gK:(oF L (f.bl.take j) k).set d k=oF L (f.bl.take (j+1)) k:=by rw[iu,hd,aq2];rfl
   have iV:=JO (oF L (f.bl.take j) k) d k;rw[gK] at iV;obtain⟨v0,hv0⟩:=aM (ls:=oF L (f.bl.take j) k) (k:=d) (by rw[NH,hLl];exact hdb);have hv:=iF hv0;simp only[go_sem,i76_l2,p6,p11,p78,p79,p80,p86,p87,p88,cB,cL,cC,wP,PE,mq,hdb,hv,iV,w2];exact⟨cp.of_eq (aR ae),cg.of_eq (aR ae)⟩
  have:j=f.bl.length:=aa;subst this;rw[kE,<- eY] at cL;simp only[go_sem,i76_l2,i76_r3,p6,p78,p79,p80,p87,p88,cB,cL,cC,dG,w1,aq,h6];exact⟨cp,cg⟩
 have:k=(dh F ls).length:=aa;subst this;rw[kE] at bL;simp only[go_sem,i76_l4,h79,h80,dG];exact hq _ _ (by simp only[go_sem,q6,h6]) bB bL bC gp gf
theorem Vs(g:bQ F ls):aF S 76 [cZ F ls] (Ah (fO F ls) (.int .i64 0)):=by
 have ok:=g.ok;have hl:=ok.hl;have hlen:=g.len;have Cv:=g.fing;have pf:=aj0 g;have pps:=Vx F ls hl;have pcs:=YJ F ls hl;have lo:S.lone 4864064064=false:=ah;have m2:=sL (a:=ls.length) aa;have wF:=bN (n:=F) aa;have r1:2*ls.length*8<=140737488355328:=aa;have r2:(F+1)*8<=140737488355328:=aa;have e1:List.replicate (2*ls.length) [PV.int .i64 0]=nP (List.replicate (2*ls.length) 0):=af;have e2:List.replicate (F+1) [PV.int .i64 0]=nP (rW ls F 0):=by rw[SZ];simp
 refine aV c76 ?_;simp only[go_sem,i76,s112];refine aae pf lo fun cf mF vm te=>?_;have Lc:=te 4864000000 ae;simp only[go_sem] at Lc;simp only[go_sem,Lc,m2,wF,r1,r2,s113,s114,gV pps,gV pcs,e1,e2];refine⟨aK,?_⟩;have hz:∀j,j≠4864064064->j≠4864000000->mF j=(0,none):=fun j a b=>(te j a).trans (aR b);have z1:=hz 4864256448 ae ae;have z2:=hz 4864256960 ae ae;have z3:=hz 4864257088 ae ae;refine cJ (fun k ak aj=>ak 4=.one cf/\ak 6=.one (.aX 4864257088 1 0)/\ak 7=vb (dn ls k)/\ak 42=.one (.p (cQ ls))/\ak 43=vi ls.length/\ak 44=vi k/\
   aj 4864256448=(1,some (.arr 3 1 (nP (List.replicate (2*ls.length) 0))))/\aj 4864256960=(1,some (.arr 3 1 (nP (rW ls F k))))/\
   ∃pc,aj 4864257088=(1,some (.var (Lj F ls pc cf)))/\grown 4864896448 xh 7 (jk ((pieces ls).take k)) (.one pc) aj/\grown 4864064064 tP 5 (jR (dh F ls)) (.one cf) aj) 0 ls.length (bj _) ?_ ?_
 .simp only[go_sem,z1,z2,z3];refine⟨rfl,rfl,.p .nils,rfl,.inl ⟨rfl,rfl⟩,vm.of_eq ?_⟩;simp only[go_sem]
 rintro k ak aj hk ⟨h4,h6,h7,xV,L2,L4,bL,bC,pc,bB,gp,gf⟩
 by_cases aq:k<ls.length
 .obtain⟨l,cF⟩:=aM aq;have hi:=fv cF;have aL:((k:Int)<(ls.length:Int)):=aa;have w1:=bN (n:=k) aa;have EL:=pP cF;cases hp:(l.kind==1) with
  |false=>
   have iU:l.aJ=false:=hp;have mq:iz ls k=false:=by simp[iz,cF,iU]
   rw[mq] at EL;have hd:=Ls cF iU;have ya:=YF (F:=F) cF iU;have eY:jk ((pieces ls).take (k+1))=jk ((pieces ls).take k)++[(Pc.mk l false).ps]:=by rw[iu,EL];simp
   simp only[go_sem,i76_l1,h6,xV,L2,L4,hi,Let.ps,aL,hp,bB];refine mZ (site:=4864896448) (id:=4864896448) (bytes:=56) (xs:=[(Pc.mk l false).ps]) (rd:=[4864896384]) (gp.of_eq (by simp only[aN,Nat.reduceEqDiff,if_false])) (by simp[ed,aN,Pc.ps]) (.inl rfl) (by simp only[cH,cS,eE,gT,jJ];omega) fun c cn r u hc hb hr=>?_;have nT:∀i,i≠4864896448->i≠4864896384->i≠4864576128->i≠4864512128->i≠4864256960->cn i=aj i:=fun i a b c d e=>(hb i a a).trans (by simp only[aN,ay b,ay c,ay d])
   have Gs:=(hb 4864256960 ae ae);simp only[aN,Nat.reduceEqDiff,if_false,bC] at Gs;have Le:=(nT 4864257088 ae ae ae ae ae).trans bB;have bL1:=(nT 4864256448 ae ae ae ae ae).trans bL;simp only[go_sem,h4,h6,h7,xV,L2,L4,Le,bL1,Gs,w1,hd,ya,aq];refine⟨?_,?_⟩
   .rcases hr with ⟨rfl,rfl⟩|⟨rfl,rfl⟩|⟨rfl,rfl⟩<;>kernel_rfl
   refine⟨c,rfl,?_,?_⟩
   .rw[eY];exact hc.of_eq (aR ae)
   exact gf.of_eq ((aR ae).trans (nT _ ae ae ae ae ae))
  |true=>
   have iU:l.aJ=true:=hp;have mq:iz ls k=dn ls k:=by simp[iz,cF,iU]
   rw[mq] at EL;have hd:=Lr cF iU;have eY:jk ((pieces ls).take (k+1))=jk ((pieces ls).take k)++[(Pc.mk l (dn ls k)).ps]:=by rw[iu,EL];simp
   have wJ:=ok.ax.eQ l (aW cF) iU;obtain⟨G,hG⟩:=uu wJ.g0;have I3:G<=F:=by have:=wJ.g1;omega
   have Gn:G<F+1:=aa;have wH:=iF (YD (ls:=ls) (k:=k) I3);have cP:cg (ls.take k) G<=k:=y7 _ _ _;have w2:=bN (n:=cg (ls.take k) G) aa;have s1:=JO (rW ls F k) G (cg (ls.take k) G+1);rw[<- YE cF iU hG] at s1;simp only[go_sem,i76_l1,h6,h7,xV,L2,L4,hi,Let.ps,aL,hp,hG,bB,bC,wH,Gn,w2,s1];refine⟨aK,?_⟩;refine mZ (site:=4864896448) (id:=4864896448) (bytes:=56) (xs:=[(Pc.mk l (dn ls k)).ps]) (rd:=[4864896384]) (gp.of_eq (by simp only[aN,Nat.reduceEqDiff,if_false])) (by simp[ed,aN,Pc.ps,hG]) (.inl rfl) (by simp only[cH,cS,eE,gT,jJ];omega) fun c cn r u hc hb hr=>?_
   have nT:∀i,i≠4864896448->i≠4864896384->i≠4864576128->i≠4864512128->i≠4864256960->cn i=aj i:=fun i a b c d e=>(hb i a a).trans (by simp only[aN,ay b,ay c,ay d,ay e]);have Gs:=(hb 4864256960 ae ae);simp only[aN,Nat.reduceEqDiff,if_false,if_true,bC] at Gs;have Le:=(nT 4864257088 ae ae ae ae ae).trans bB;have bL1:=(nT 4864256448 ae ae ae ae ae).trans bL;simp only[go_sem,h4,h6,h7,xV,L2,L4,Le,bL1,Gs,w1,hd,aq];refine⟨?_,?_⟩
   .rcases hr with ⟨rfl,rfl⟩|⟨rfl,rfl⟩|⟨rfl,rfl⟩<;>kernel_rfl
   refine⟨c,rfl,?_,?_⟩
   .rw[eY];exact hc.of_eq (aR ae)
   exact gf.of_eq ((aR ae).trans (nT _ ae ae ae ae ae))
 have:k=ls.length:=aa;subst this;rw[dD (by rw[jJ];exact bJ _)] at gp;rw[SY] at bC;simp only[go_sem,i76_l1,L2,L4,dG];refine aoK g (pc:=pc) (cf:=cf) ?_ ?_ bB bL bC gp gf ?_
 .simp only[go_sem,h4]
 .simp only[go_sem,h6]
 intro aA ao q6 cB cL cC gp' gf';simp only[go_sem,h6] at q6;obtain⟨rp,np,_⟩:=gp'.V0 (n:=4);obtain⟨rf,nf,_⟩:=gf'.V0 (n:=4);have t1:List.take (2*ls.length) (nP (ou F ls))=nP (ou F ls):=dD (by simp[ou,Qi]);have t2:List.take (F+1) (nP (counts ls F))=nP (counts ls F):=dD (by simp[counts]);have n1:2*ls.length<=(ou F ls).length:=by simp[ou,Qi]
 have n2:F+1<=(counts ls F).length:=by simp[counts]
 simp only[go_sem,i76_r5,q6];simp only[go_sem,gh,nL,tU,kI,kh,gQ,cB,cL,cC,np,nf,t1,t2,n1,n2];rfl
theorem rM{x:Int}(h1: -9223372036854775808<=x)(h2:x<=9223372036854775807):IntKind.i64.wrap x=x:=by
 have e:(2 ^ IntKind.i64.bits:Int)=18446744073709551616:=ae;have e2:(2 ^ (IntKind.i64.bits-1):Int)=9223372036854775808:=ae;unfold IntKind.wrap;simp only[e,e2];by_cases h:0<=x
 .have h3:x%18446744073709551616=x:=aa;rw[h3];have h4:¬x≥9223372036854775808:=aa;simp[h4]
 have h3:x%18446744073709551616=x+18446744073709551616:=aa;rw[h3];have h4:x+18446744073709551616≥9223372036854775808:=aa;have h5:IntKind.i64.signed=true:=rfl;simp[h4,h5]
theorem asE(l:List Pc):eo 7 (jk l)=true:=by simp[eo,Pc.ps]
theorem aq0(l:List Pc):((jk l).all fun e=>e.all PV.scalar)=true:=by simp[Pc.ps,PV.scalar]
abbrev EX(l x:List Pc)(k:Nat):List Pc:=l.take (k+1)++x++l.drop (k+1)
theorem aiw(p:Pc)(t:List Pc)(hl:(p::t).length<=1000000):aF S 181 [.one (.p (.sl (jk (p::t))))] (.one (aO xh 7 (jk (p::t)))):=by
 have hs:=asE (p::t);have hr:(0+(jk (p::t)).length)*56<=room:=by unfold room;rw[cH];omega
 refine aV c181 ?_;obtain⟨e0,es,hq⟩:∃e0 es,jk (p::t)=e0::es:=⟨_,_,rfl⟩;rw[hq] at hs hr ⊢;have aI:e0::es≠[]:=af;have r5:aO xh 7 (e0::es)=.own xh 7 (e0::es):=ay aI;rw[r5];unfold room at hr;simp only[jm,cS] at hr;simp only[eo,oG] at hs;simp only[go_sem,i181,eF,eo];simp only[hs,hr,not_true_eq_false,if_true,if_false];simp only[go_sem];exact Fp rL rfl
def shP(g ab b:Int)(p:Pc):Pc:=if (p.l.kind==1)&&((p.l.gate==g)&&decide (ab<p.l.aE)) then {p with l:={p.l with aE:=p.l.aE+b}} else p
abbrev Dn(l:List Pc)(g ab b:Int):List Pc:=l.map (shP g ab b)
def Fs(p:Pc):Bool:=(p.l.kind==1)&&p.d
def pdA(l:List Pc)(i:Nat):Bool:=match l[i]? with|some p=>Fs p|none=>false
theorem VC{l:List Pc}{i:Nat}{p:Pc}(h:l[i]?=some p):pdA l i=Fs p:=by simp[pdA,h]
def tR(l:List Pc):Option Nat:=(List.range l.length).find? (pdA l)
theorem aja(p:Pc):aF S 155 [.agg (p.ps.map .p)] (rb (Fs p)):=by
 refine aV c155 ?_;unfold Fs;cases h:(p.l.kind==1) with
 |true=>simp only[go_sem,i155,Pc.ps,h]
 |false=>simp only[go_sem,i155,Pc.ps,h]
theorem amA(l:List Pc)(hl:l.length<=1000000):aF S 154 [.one (.p (.sl (jk l))),.one (.p (.fn 155 [] []))] (ri (match tR l with|some k=>(k:Int)|none=> -1)):=by
 refine aV c154 ?_;simp only[go_sem,i154];refine cJ (fun k ak aj=>ak 0=.one (.p (.sl (jk l)))/\ak 1=.one (.p (.fn 155 [] []))/\ak 7=vi l.length/\ak 8=vi k/\ ∀j,j<k->pdA l j=false) 0 l.length (bj _) ?_ ?_
 .simp only[go_sem];exact⟨rfl,fun j hj=>absurd hj (mT j)⟩
 rintro k ak aj hk ⟨h0,h1,h7,h8,hn⟩
 by_cases aq:k<l.length
 .have aL:((k:Int)<(l.length:Int)):=aa;obtain⟨p,hp⟩:=aM aq;have jX:=rG hp;have w1:=bN (n:=k) aa;have pd:=aja p;have vu:=VC hp;cases hb:Fs p with
  |true=>rw[hb] at pd vu;have hf:tR l=some k:=Cd aq hn vu;simp only[Pc.ps,fy,pV] at pd;simp only[go_sem,i154_l1,h0,h1,h7,h8,aL,jX,Pc.ps,s155,bh pd,hf]
  |false=>
   rw[hb] at pd vu;simp only[Pc.ps,fy,pV] at pd;simp only[go_sem,i154_l1,h0,h1,h7,h8,aq,aL,jX,Pc.ps,s155,bh pd,w1];intro j hj;rcases lL.1 hj with h|rfl
   .exact hn j h
   exact vu
 have:k=l.length:=aa;subst this;have hf:tR l=none:=IL hn;simp only[go_sem,i154_l1,i154_r2,h7,h8,dG,hf]
abbrev gH:Nat:=38
def rH(l:List Pc)(akq k:Nat):List Let:=(List.range k).map fun i=>(l.getD ((akq+i)%l.length) ⟨kO,false⟩).l
theorem aqJ{l:List Pc}{f k:Nat}{p:Pc}(h:l[(f+k)%l.length]?=some p):rH l f (k+1)=rH l f k++[p.l]:=by simp[rH,uZ,cY,h]
def nh(l:List Pc):List Let:=rH l ((tR l).getD 0) l.length
abbrev aZ(o:List Let):List (List PV):=o.map Let.ps
theorem Em{s1 t1 z1:Nat}{es:List (List PV)}{c:C}{x:PV}{aj:aw}(h:grown s1 t1 z1 es (.one c) aj):gh aj (.agg [.p x,c])=some (.agg [.p x,aO t1 z1 es]):=by obtain⟨c',o,hc,h2,h3⟩:=h.gQ;cases hc;rcases h3 with rfl|rfl<;>simp[gh,nL,kI,kh,h2,(show Go.Abs.gQ aj (.p x)=some (.p x,[],[]) from rfl),apart,sI,pQ]
theorem aj8(F:Nat)(l:List Pc)(hl:l.length<=1000000)(x1 x2 x3 x4 x5 x6:PV):aF S 120 [.one (.p (.box [.int .i64 F,x1,x2,x3,x4,x5,x6])),.one (.p (.sl (jk l)))] (.agg [.p (.int .i64 F),aO gH 6 (aZ (nh l))]):=by
 have px:=amA l hl;have hfd:∃f,(tR l).getD 0=f/\(l≠[]->f<l.length):=by
  refine⟨_,rfl,fun aI=>?_⟩;cases h:tR l with
  |none=>exact jl.2 aI
  |some k=>exact fg.1 (KS h)
 obtain⟨f,hf,uI⟩:=hfd;have CG:((tR l=none/\f=0)\/tR l=some f):=by
  cases h:tR l with
  |none=>rw[h] at hf;exact .inl ⟨rfl,hf.symm⟩
  |some k=>rw[h] at hf;exact .inr (congrArg some hf)
 unfold nh;rw[hf];have main:∀(ak:Env) (aj:aw),ak 1=.one (.p (.sl (jk l)))->ak 4=.one (.aX 7680000000 1 0)->ak 5=.one (.aX 7680064320 1 0)->ak 6=vi f->ak 17=vi l.length->ak 18=vi ((0:Nat):Int)->aj 7680000000=(1,some (.var [.p (.int .i64 0),.p .nils]))->aj 7680064320=(1,some (.var [.p (.int .i64 F),.p .nils]))->
   W S .all (.loop i120_l1) (lN 0 (xu S .all i120_r2 (qS .all [(4,some (some 2))] fun v aj=>gh aj v=some (.agg [.p (.int .i64 F),aO gH 6 (aZ (rH l f l.length))])))) ak aj:=by
  intro ak aj e1 e4 e5 e6 Lt Lu b0 bO;refine cJ (fun k ak aj=>ak 1=.one (.p (.sl (jk l)))/\ak 4=.one (.aX 7680000000 1 0)/\ak 5=.one (.aX 7680064320 1 0)/\ak 6=vi f/\ak 17=vi l.length/\ak 18=vi k/\aj 7680000000=(1,some (.var [.p (.int .i64 0),.p .nils]))/\ ∃c,aj 7680064320=(1,some (.var [.p (.int .i64 F),c]))/\grown 7680384832 gH 6 (aZ (rH l f k)) (.one c) aj) 0 l.length (bj _) ⟨e1,e4,e5,e6,Lt,Lu,b0,.p .nils,bO,.inl ⟨rfl,rfl⟩⟩ ?_;rintro k ak aj hk ⟨h1,h4,h5,h6,kZ,kz,b0,c,bO,gc⟩
  by_cases aq:k<l.length
  .have aL:((k:Int)<(l.length:Int)):=aa;have aI:l≠[]:=jl.1 aa;have uI:=uI aI;have w1:=bN (n:=k) aa;have w2:=wrap_add (a:=f) (b:=k) aa;have e2:=um (f+k) l.length;have hm:=ez (f+k) (show 0<l.length by omega);obtain⟨p,hp⟩:=aM hm;have jX:=rG hp;have hz:¬((l.length:Int)=0):=aa;have hr:=aqJ hp;have hle:(rH l f k).length=k:=by simp[rH]
   simp only[go_sem,i120_l1,h1,h5,h6,kZ,kz,bO,aL,w2,e2,hz,jX,Pc.ps];refine mZ (site:=7680384832) (id:=7680384832) (bytes:=48) (xs:=[p.l.ps]) (rd:=[7680384768]) (gc.of_eq (aR ae)) (by simp[ed,aN,Let.ps]) (.inl rfl) (by simp only[cH,hle,cS,eE];omega) fun c' cn r u hc hb hru=>?_;have bO1:=(hb 7680064320 ae ae).trans ((aR ae).trans bO);have b01:=(hb 7680000000 ae ae).trans ((aR ae).trans b0);simp only[go_sem,h1,h4,h5,h6,kZ,kz,bO1,b01,aq,w1];refine⟨?_,c',rfl,?_⟩
   .rcases hru with ⟨rfl,rfl⟩|⟨rfl,rfl⟩|⟨rfl,rfl⟩<;>kernel_rfl
   rw[hr,aZ,rQ];exact hc.of_eq (aR ae)
  have:k=l.length:=aa;subst this;simp only[go_sem,i120_l1,i120_r2,h4,h5,kZ,kz,bO,b0,dG];exact Em (gc.of_eq (aR ae))
 refine aV c120 ?_;rcases CG with ⟨hn,rfl⟩|hs
 .rw[hn] at px;have My:¬((0:Int)< -1):=ae;simp only[go_sem,i120,s154,dJ px];exact main _ _ (by simp only[go_sem]) (by simp only[go_sem]) (by simp only[go_sem]) (by simp only[go_sem];rfl) (by simp only[go_sem]) (by simp only[go_sem];rfl) (by simp only[go_sem]) (by simp only[go_sem])
 rw[hs] at px;simp only[go_sem,i120,s154,dJ px];exact main _ _ (by simp only[go_sem]) (by simp only[go_sem]) (by simp only[go_sem]) (by simp only[go_sem];split<;>(first|rfl|(congr 1;simp;omega))) (by simp only[go_sem]) (by simp only[go_sem];rfl) (by simp only[go_sem]) (by simp only[go_sem])
theorem am0:aF S 118 [] (.agg [.p .yz,.p (.fn 145 [] []),.p (.fn 146 [] []),.p (.fn 147 [] []),.p (.fn 148 [] []),.p (.fn 149 [] []),.p (.fn 150 [] []),.p (.fn 151 [] []),.p (.fn 152 [] []),.p (.fn 153 [] []),.p (.fn 153 [] [])]):=by refine aV c118 ?_;simp only[go_sem,i118];rfl
def lR(k:Int):Int×Int:=if k=2 then (2,0) else if k=5 then (2,1) else if k=7 then (4,2) else (0,0)
theorem akW(k:Int):aF S 119 [vi k] (.tup [.one (.p (.int .i64 (lR k).1)),.one (.p (.int .i64 (lR k).2))]):=by
 refine aV c119 ?_;unfold lR;by_cases h2:k=2
 .subst h2;simp only[go_sem,i119];rfl
 by_cases h5:k=5
 .subst h5;simp only[go_sem,i119];rfl
 by_cases h7:k=7
 .subst h7;simp only[go_sem,i119];rfl
 rw[ay h2,ay h5,ay h7];have e2:(k==2)=false:=by simpa using h2
 have e5:(k==5)=false:=by simpa using h5
 have e7:(k==7)=false:=by simpa using h7
 simp only[go_sem,i119,e2,e5,e7];rfl
theorem Yc{l:List Pc}(aI:l≠[])(hl:l.length<=1000000):aF S 181 [.one (.p (.sl (jk l)))] (.one (aO xh 7 (jk l))):=by
 cases l with
 |nil=>exact absurd rfl aI
 |cons p t=>exact aiw p t hl
section
variable {Q:dy} {ak:Env} {aj:aw} {os:List bI} {d:Option Nat}
end
theorem anp(fs:List Fc):∀(j:Nat) (L:List Nat),∀v∈qA fs j L,v∈L\/v<j+fs.length:=by
 have gK:∀(ds:List Nat) (L:List Nat) (x:Nat),∀v∈oF L ds x,v∈L\/v=x:=by
  intro ds
  induction ds with
  |nil=>intro L x v h;exact .inl h
  |cons d ds ih=>
   intro L x v h;rcases ih (L.set d x) x v h with h|h
   .rcases R0 h with h|h
    .exact .inl h
    exact .inr h
   exact .inr h
 induction fs with
 |nil=>intro j L v h;exact .inl h
 |cons f r ih=>
  intro j L v h;rcases ih (j+1) (oF L f.bl j) v h with h|h
  .rcases gK _ _ _ v h with h|h
   .exact .inl h
   subst h;exact .inr af
  exact .inr (by simp only[cS];omega)
def Nh:Fc:=⟨false,[],[],[],false⟩
def kr(F:Nat)(ls:List Let)(d:Nat):Fc:=(dh F ls).getD ((ou F ls).getD d 0) Nh
theorem UX(F:Nat)(ls:List Let):(ou F ls).length=2*ls.length:=by simp[ou,Qi]
theorem Tk(g:bQ F ls){d:Nat}(hd:d<2*ls.length):∃j,(ou F ls)[d]?=some j/\(dh F ls)[j]?=some (kr F ls d)/\j<(dh F ls).length:=by
 obtain⟨j,hj⟩:=aM (ls:=ou F ls) (k:=d) (by rw[UX];exact hd);have hn:0<(dh F ls).length:=by rw[Tm,g.nw];omega
 have nu:j<(dh F ls).length:=by
  rcases anp (dh F ls) 0 _ j (aW hj) with h|h
  .have:=RR h;omega
  omega
 refine⟨j,hj,?_,nu⟩;obtain⟨f,hf⟩:=aM nu;unfold kr;rw[cY (l:=ou F ls),hj,lZ,cY,hf];rfl
def ac0(b:Nat)(r:Int)(d:Bool):Pc:=⟨⟨1,b,r,0,0,false⟩,d⟩
def OC(ls:List Let)(av b c:Nat)(f:Fc)(side:Bool):List Pc:=EX (Dn (pieces ls) b c 2) [ac0 b (if f.fi !=side then ((c+2:Nat):Int) else ((c+1:Nat):Int)) f.fi,ac0 b (if f.fi !=side then ((c+1:Nat):Int) else ((c+2:Nat):Int)) (!f.fi)] av
def amR(F:Nat)(ls:List Let)(av b c:Nat):Option (List Pc):=
 if (b,c)∈(kr F ls (2*av)).places then some (OC ls av b c (kr F ls (2*av)) false)
 else if (b,c)∈(kr F ls (2*av+1)).places then some (OC ls av b c (kr F ls (2*av+1)) true) else none
def kR (o:Option (List Pc)):RV:=.tup [.one (aO xh 7 (jk (o.getD []))),.one (.p (.bool o.isSome))]
theorem aqe(g:bQ F ls):∀p∈pieces ls,-1000000<=p.l.aE/\p.l.aE<=1000000:=by
 intro p hp;obtain⟨i,hi⟩:=jd hp;have r6:i<ls.length:=by rw[<- jJ];exact(bg.1 hi).1
 obtain⟨l,hl⟩:=aM r6;rw[pP hl] at hi;cases hi;rcases g.ok.kinds l (aW hl) with h|h
 .have hg:=g.ok.ax.eQ l (aW hl) h;have:=hg.r0;have:=hg.r1;have hc:cg ls l.gate.toNat<=ls.length:=oU _ _;have:=g.len;simp only;omega
 have:=(Vi (f:=F) h).1 (g.bad l (aW hl));simp only[this.1.2];omega
def lmR(ls:List Let)(av:Nat)(sg:Int)(o:Bool):List Pc:=EX (pieces ls) [⟨⟨2,0,0,((aC Let.aG ls/2+1:Nat):Int),sg,o⟩,false⟩,⟨⟨2,0,0,((aC Let.aG ls/2+1:Nat):Int),sg,!o⟩,false⟩] av
def iX(n:Nat)(i:Int):Bool:=decide (0<=i)&&decide (i<(n:Int))
theorem is_p(i:Int)(n:Nat):aF S 144 [vi i,.one (.p (.box [.int .i64 n]))] (rb (iX n i)):=by
 refine aV c144 ?_;unfold iX;by_cases h1:0<=i
 .by_cases h2:i<(n:Int)
  .simp only[go_sem,i144,h1,h2]
  simp only[go_sem,i144,h1,h2]
 simp only[go_sem,i144,h1]
theorem Fz(l:List Let):((aZ l).all fun e=>e.all PV.scalar)=true:=by simp[Let.ps,PV.scalar]
abbrev mz(F:Nat)(L:List Let):RV:=.tup [.agg [.p (.int .i64 F),aO gH 6 (aZ L)],.one (.p (.int .i64 0))]
def ze(F:Nat)(ls:List Let)(k:Int):Option (List Pc)->RV
 |none=>sH 4
 |some L=>if (400:Int)<(ls.length:Int)+(lR k).1\/(100:Int)<((aC Let.aG ls/2:Nat):Int)+(lR k).2 then sH 7 else mz F (nh L)
section
variable {h:Nat}
end
section
variable {h:Nat}
end
theorem aj4(L:List Pc):(nh L).length=L.length:=by simp[nh,rH]
theorem PY(l x:List Pc)(k:Nat):(EX l x k).length=l.length+x.length:=by simp only[EX,eG,gT,lX];omega
end
end Go.Abs
