/- A part. -/
import Derived.Test.YtfhejdojdajpmaaGreatDoorWh
set_option linter.all false
set_option maxRecDepth 100000
set_option maxHeartbeats 16000000
namespace Go.Abs
section
variable{F:Nat}{ls:List Let}
theorem acq{e:List PV}(h:e.length=1):∃x0,e=[x0]:=by
 match e,h with
 |[a],_=>exact⟨a,rfl⟩
theorem acr{e:List PV}(h:e.length=2):∃x0 x1,e=[x0,x1]:=by
 match e,h with
 |[a,b],_=>exact⟨a,b,rfl⟩
structure yy (es fs:List (List PV)) (k:Nat):Prop where
 len:fs.length=es.length
 at':∀i,i<es.length->fs[i]?=if i<k\/es.length-1-i<k then es[es.length-1-i]? else es[i]?
theorem yy.start(es:List (List PV)):yy es es 0:=⟨rfl,fun i _=>by rw[aD aa]⟩
theorem yy.step{es fs:List (List PV)}{k:Nat}{a b:List PV}(h:yy es fs k)(hk:k<es.length-1-k)(ha:es[k]?=some a)(hb:es[es.length-1-k]?=some b):
  fs[k]?=some a/\fs[es.length-1-k]?=some b/\yy es ((fs.set k b).set (es.length-1-k) a) (k+1):=by
 have hlen:=h.len;refine⟨?_,?_,⟨by rw[rD,rD];exact hlen,fun i hi=>?_⟩⟩
 .rw[h.at' k aa,aD aa,ha]
 .rw[h.at' _ aa,aD aa,hb]
 rw[nW,rD];by_cases e1:es.length-1-k=i
 .rw[aE e1,aE aa,aE aa,show es.length-1-i=k by omega,ha]
 rw[aD e1,nW];by_cases e2:k=i
 .subst e2;rw[aE rfl,aE aa,aE aa,hb]
 rw[aD e2,h.at' i hi];by_cases e3:i<k\/es.length-1-i<k
 .rw[aE e3,aE aa]
 rw[aD e3,aD aa]
theorem yy.done{es fs:List (List PV)}{k:Nat}(h:yy es fs k)(hk:¬k<es.length-1-k):fs=es.reverse:=by
 refine BE fun i=>?_;rcases Mh i es.length with hi|hi
 .rw[h.at' i hi,afH hi];by_cases e:i<k\/es.length-1-i<k
  .rw[aE e]
  rw[aD e,show es.length-1-i=i by omega]
 rw[nV (by rw[h.len];exact hi),nV (by rw[vA];exact hi)]
def OM(id ty z:Nat)(es:List (List PV))(c:C)(aj:aA)(v:V)(ao:aA):Prop:=v=.tup []/\grown id ty z es.reverse (.one c) ao/\Kept (· =id) aj ao
theorem ao5{al:Al}{aj:aA}{id ty:Nat}{es:List (List PV)}{c:C}(o:es=[]\/al.ok id=true)(hl:es.length<=1000000)(mf:∀e∈es,e.length=1/\ ∀v∈e,v.norm=v)(h:grown id ty 1 es (.one c) aj):
  ∃v ao,iA S 155 [.one c] al aj v ao/\OM id ty 1 es c aj v ao:=by
 refine mz c155 (gj rfl) ?_;rcases h with ⟨rfl,h2⟩|⟨aM,g,h2,hC⟩
 .cases h2;have w0:IntKind.i64.wrap (((0:Nat):Int)-1)= -1:=ae;have hz:¬((0:Int)< -1):=ae;simp only[go_sem,i155,w0];refine cS (fun k ak ao=>k=0/\ak 2=vi 0/\ak 3=vi (-1)/\ao=aj) 0 0 (cA _) ?_ ?_
  .simp only[go_sem]
  rintro k ak ao _ ⟨rfl,h2,h3,rfl⟩
  simp only[go_sem,i155_l1,h2,h3,hz];exact⟨rfl,.inl ⟨rfl,rfl⟩,fun _ _=>rfl⟩
 cases h2;have o:=o.resolve_left aM;have w0:=ux (a:=es.length) aa;simp only[go_sem,i155,w0];refine cS (fun k ak ao=>ak 0=.one (.hsl id g 1 0 es.length)/\ak 2=vi k/\ak 3=vi ((es.length:Int)-1-(k:Int))/\ ∃fs,ao id=(g,some (.arr ty 1 fs))/\yy es fs k/\Kept (· =id) aj ao) 0 es.length (bn _) ?_ ?_
 .simp only[go_sem];refine⟨rfl,af,es,hC,yy.start es,Kept.refl _ _⟩
 rintro k ak ao hk ⟨h0,h2,h3,fs,hF,hI,cT⟩
 by_cases au:k<es.length-1-k
 .have e1:((es.length:Int)-1-(k:Int))=((es.length-1-k:Nat):Int):=aa;rw[e1] at h3;have aL:((k:Int)<((es.length-1-k:Nat):Int)):=aa;have w1:=bQ (n:=k) aa;have w2:IntKind.i64.wrap (((es.length-1-k:Nat):Int)-1)=((es.length:Int)-1-((k+1:Nat):Int)):=by
   rw[ux aa];omega
  obtain⟨a,ha⟩:=aN (show k<es.length by omega);obtain⟨b,hb⟩:=aN (show es.length-1-k<es.length by omega);obtain⟨fa,fb,xL⟩:=hI.step au ha hb;obtain⟨la,na⟩:=mf a (aW ha);obtain⟨lb,nb⟩:=mf b (aW hb);obtain⟨x0,rfl⟩:=acq la;obtain⟨y0,rfl⟩:=acq lb;have TS:=na x0 af;have TT:=nb y0 af;have tU:=hI.len;have KB:¬(k=es.length-1-k):=aa;have akK:¬(es.length-1-k=k):=aa;have l1:k<fs.length:=aa;have l2:es.length-1-k<fs.length:=aa;have l3:k<es.length:=aa;have l4:es.length-1-k<es.length:=aa;simp only[go_sem,i155_l1,h0,h2,h3,hF,aL,fa,fb,w1,w2,o,l1,l3,l4,KB,TS,TT,nW];refine⟨aH,_,rfl,xL,?_⟩;exact(cT.df rfl _).df rfl _
 have aL:¬((k:Int)<(es.length:Int)-1-(k:Int)):=aa;simp only[go_sem,i155_l1,h2,h3,aL];refine⟨rfl,?_,cT⟩;rw[hI.done au] at hF;exact .inr ⟨by simpa using aM,g,by rw[vA],hF⟩
theorem ao6{al:Al}{aj:aA}{id ty:Nat}{es:List (List PV)}{c:C}(o:es=[]\/al.ok id=true)(hl:es.length<=1000000)(mf:∀e∈es,e.length=2/\ ∀v∈e,v.norm=v)(h:grown id ty 2 es (.one c) aj):
  ∃v ao,iA S 154 [.one c] al aj v ao/\OM id ty 2 es c aj v ao:=by
 refine mz c154 (gj rfl) ?_;rcases h with ⟨rfl,h2⟩|⟨aM,g,h2,hC⟩
 .cases h2;have w0:IntKind.i64.wrap (((0:Nat):Int)-1)= -1:=ae;have hz:¬((0:Int)< -1):=ae;simp only[go_sem,i154,w0];refine cS (fun k ak ao=>k=0/\ak 2=vi 0/\ak 3=vi (-1)/\ao=aj) 0 0 (cA _) ?_ ?_
  .simp only[go_sem]
  rintro k ak ao _ ⟨rfl,h2,h3,rfl⟩
  simp only[go_sem,i154_l1,h2,h3,hz];exact⟨rfl,.inl ⟨rfl,rfl⟩,fun _ _=>rfl⟩
 cases h2;have o:=o.resolve_left aM;have w0:=ux (a:=es.length) aa;simp only[go_sem,i154,w0];refine cS (fun k ak ao=>ak 0=.one (.hsl id g 2 0 es.length)/\ak 2=vi k/\ak 3=vi ((es.length:Int)-1-(k:Int))/\ ∃fs,ao id=(g,some (.arr ty 2 fs))/\yy es fs k/\Kept (· =id) aj ao) 0 es.length (bn _) ?_ ?_
 .simp only[go_sem];refine⟨rfl,af,es,hC,yy.start es,Kept.refl _ _⟩
 rintro k ak ao hk ⟨h0,h2,h3,fs,hF,hI,cT⟩
 by_cases au:k<es.length-1-k
 .have e1:((es.length:Int)-1-(k:Int))=((es.length-1-k:Nat):Int):=aa;rw[e1] at h3;have aL:((k:Int)<((es.length-1-k:Nat):Int)):=aa;have w1:=bQ (n:=k) aa;have w2:IntKind.i64.wrap (((es.length-1-k:Nat):Int)-1)=((es.length:Int)-1-((k+1:Nat):Int)):=by
   rw[ux aa];omega
  obtain⟨a,ha⟩:=aN (show k<es.length by omega);obtain⟨b,hb⟩:=aN (show es.length-1-k<es.length by omega);obtain⟨fa,fb,xL⟩:=hI.step au ha hb;obtain⟨la,na⟩:=mf a (aW ha);obtain⟨lb,nb⟩:=mf b (aW hb);obtain⟨x0,x1,rfl⟩:=acr la;obtain⟨y0,y1,rfl⟩:=acr lb;have TS:=na x0 af;have ak0:=na x1 af;have TT:=nb y0 af;have ak1:=nb y1 af;have tU:=hI.len;have KB:¬(k=es.length-1-k):=aa;have akK:¬(es.length-1-k=k):=aa;have l1:k<fs.length:=aa;have l2:es.length-1-k<fs.length:=aa;have l3:k<es.length:=aa;have l4:es.length-1-k<es.length:=aa;simp only[go_sem,i154_l1,h0,h2,h3,hF,aL,fa,fb,w1,w2,o,l1,l3,l4,KB,TS,ak0,TT,ak1,nW];refine⟨aH,_,rfl,xL,?_⟩;exact(cT.df rfl _).df rfl _
 have aL:¬((k:Int)<(es.length:Int)-1-(k:Int)):=aa;simp only[go_sem,i154_l1,h2,h3,aL];refine⟨rfl,?_,cT⟩;rw[hI.done au] at hF;exact .inr ⟨by simpa using aM,g,by rw[vA],hF⟩
theorem Vj{site ty z:Nat}{es:List (List PV)}{c:C}{aj:aA}(h:grown site ty z es (.one c) aj):(es=[]/\jr aj (.one c)=[])\/jr aj (.one c)=[site]:=by
 rcases h with ⟨h1,h2⟩|⟨h1,g,h2,h3⟩
 .cases h2;exact .inl ⟨h1,Vk⟩
 cases h2;exact .inr (show kU aj 6 (.hsl site g z 0 es.length)=[site] from HY (n:=5) h3)
section
variable {al:Al} {Q:dS} {ak:Env} {aj:aA} {os:List bR} {d:Option Nat}
theorem aak{f id ty z:Nat}{es:List (List PV)}{c:C}(alf:∀ {al:Al} {aj:aA},es=[]\/al.ok id=true->grown id ty z es (.one c) aj->∃v ao,iA S f [.one c] al aj v ao/\OM id ty z es c aj v ao)(hs:S.sites f=[f])(hg:grown id ty z es (.one c) aj)(oid:al.ok id=true)(hf:al.fs.contains f=true)
  (hK:∀ao,grown id ty z es.reverse (.one c) ao->(∀i,i≠id->ao i=aj i)->RN S al os Q (put ak d (.tup [])) ao):gP S al (.sc f [.one c]) d os Q ak aj:=by
 refine rV (P:=OM id ty z es c aj) (holds_of ?_ ?_) (alf ?_ hg) ?_
 .show al.fE ([V.one c].map (jr aj)).flatten=true;rcases Vj hg with ⟨_,h⟩|h
  .simp[h,Al.fE]
  simp[h,Al.fE,oid]
 .show(S.sites f).all al.fs.contains=true;rw[hs];simp only[qM,tv,hf,Fy]
 .rcases Vj hg with ⟨h,_⟩|h
  .exact .inl h
  exact .inr (xl (by simp[h]))
 rintro v ao ⟨rfl,h1,h2⟩
 exact hK ao h1 h2
end
theorem aql:S.sites 154=[154]:=ah
theorem aqk:S.sites 155=[155]:=ah
theorem VO(ok:dU F ls){x:Nat}(h:x<nD ls):aV ls x<nD ls:=O8 ok.iT ok.hp h
abbrev r9(id:Nat):Prop:=mr id=128
structure FE (ls:List Let) (j9 gS idB gB g8 gF:Nat) (sp:List Bool) (f:Fc) (cd cp cf:C) (aj:aA):Prop where
 bS:aj j9=(gS,some (.arr 4 1 (bP sp)))
 bB:aj idB=(gB,some (.arr 4 1 (bP (An ls))))
 b8:aj 8192000000=(g8,some (.var [.p (.bool false),.p .nils,.p .nils,.p .nils,.p (.bool false)]))
 bF:aj 8192128448=(gF,some (.var [.p (.bool f.eI),cd,cp,cf,.p (.bool f.outer)]))
 gd:grown 8192512256 3 1 (nP f.bj) (.one cd) aj
 gp:grown 8192896192 um 2 (dD f.places) (.one cp) aj
 gf:grown 8192896448 3 1 (nP f.rS) (.one cf) aj
theorem agu(ok:dU F ls){f:Fc}{x k:Nat}(hx:x<nD ls)(h:f.bj.length<=k/\f.places.length<=k*(2*F+2)/\f.rS.length<=k*(2*F+2)):(f.add F ls x).bj.length<=k+1/\(f.add F ls x).places.length<=(k+1)*(2*F+2)/\(f.add F ls x).rS.length<=(k+1)*(2*F+2):=by
 obtain⟨i1,i2,i3⟩:=h;rw[Nat.succ_mul];unfold Fc.add;by_cases h:x<2*ls.length
 .rw[aE h];simp only[fH,dp,eP];exact⟨aa,aa,aa⟩
 rw[aD h];have hj:(x-2*ls.length)/2<(aC ls).length:=by unfold nD at hx;omega
 have l1:=OA ok hj;have l2:=Oz ok hj;refine⟨by simp only;omega,?_,?_⟩
 .simp only[fH];split<;>(try rw[vA])<;>omega
 simp only[fH];split<;>(try rw[vA])<;>omega
theorem ajj{al:Al}(ok:dU F ls)(hF:F<=1000)(okf:∀id,r9 id->al.ok id=true){j9 gS idB gB g8 gF d:Nat}(oS:al.ok j9=true)(nS:¬r9 j9)(nB:¬r9 idB)(nSB:j9≠idB)(f1:al.fs.contains 154=true)(f2:al.fs.contains 155=true)(hd:d<2*ls.length){Q:dS}:
  ∀(fuel k x:Nat) (fZ:List Bool) (f:Fc) (ak:Env) (aj:aA) (cd cp cf:C),ak 0=.one (.p (rM F ls))->ak 2=.one (.hsl j9 gS 1 0 (2*ls.length))->ak 8=.one (.ba 8192000000 g8 0)->ak 9=vi ls.length->ak 10=vi (aC ls).length->ak 11=.one (.ba 8192128448 gF 0)->ak 12=vi x->
   FE ls j9 gS idB gB g8 gF (fZ.take (2*ls.length)) f cd cp cf aj->fZ.length=nD ls->x<nD ls->Inv (aV ls) (nD ls) d fZ x->wV fZ<fuel->(k+fuel<=5000000)->(f.bj.length<=k/\f.places.length<=k*(2*F+2)/\f.rS.length<=k*(2*F+2))->
   (∀aI ao vH lX uJ,aI 8=ak 8->aI 11=ak 11->FE ls j9 gS idB gB g8 gF ((eD (aV ls) fuel x fZ).2.take (2*ls.length)) ((eD (aV ls) fuel x fZ).1.foldl (Fc.add F ls) f) vH lX uJ ao->(∀id,¬(r9 id\/id=j9)->ao id=aj id)->Q .normal aI ao)->
   W S al (.loop i128_l1) (pF 0 Q) ak aj:=by
 have hl:=ok.hl;have fO:(aC ls).length<=1000000:=lf (qQ ls ls.length) hl;have eV:nD ls<=4000000:=by unfold nD;omega
 have m2:=qL (a:=ls.length) aa;have k0:al.ok 8192000000=true:=okf _ rfl;have kF:al.ok 8192128448=true:=okf _ rfl;have kd0:al.ok 8192512192=true:=okf _ rfl;have kd:al.ok 8192512256=true:=okf _ rfl;have kp:al.ok 8192896192=true:=okf _ rfl;have kf:al.ok 8192896448=true:=okf _ rfl;have kr1:al.ok 8192640128=true:=okf _ rfl;have kr2:al.ok 8192640129=true:=okf _ rfl;have hm:=maps ok;intro fuel
 induction fuel with
 |zero=>intro k x fZ f ak aj cd cp cf _ _ _ _ _ _ _ _ _ _ _ h;omega
 |succ fuel ih=>
  intro k x fZ f ak aj cd cp cf h0 h2 h8 h9 dC jL l8 hB GJ wD hi hu hk hlen hq;have hle:=hm.le;obtain⟨l1,l2,l3⟩:=hlen;have aaE:k*(2*F+2)<=5000000*2002:=Nat.mul_le_mul aa aa;have Ha:=agu ok wD ⟨l1,l2,l3⟩;unfold eD at hq;have nSi:∀ {a:Nat},r9 a->a≠j9:=fun h e=>nS (e▸h);have nBi:∀ {a:Nat},r9 a->a≠idB:=fun h e=>nB (e▸h);have nF:¬(8192128448=j9):=nSi rfl;refine lU ?_;cases hs:fZ.getD x true with
  |true=>
   have hxd:=hi.i4 hs;have au:x<2*ls.length:=aa;have aL:((x:Int)<((2*ls.length:Nat):Int)):=aa;rw[hs] at hq;simp only[if_true] at hq;have hb:(fZ.take (2*ls.length))[x]?=some true:=by
    have h1:=Vz au (show 2*ls.length<=fZ.length by omega);rw[show sn fZ x=true from hs,cU] at h1;have tc:x<(fZ.take (2*ls.length)).length:=by rw[iF];omega
    obtain⟨b,hb⟩:=aN tc;rw[hb] at h1 ⊢;exact congrArg some h1
   have nv:=qo hb;simp only[go_sem,i128_l1,h0,h2,h9,l8,m2,aL,au,hB.bS,nv,oS];exact hq _ _ cd cp cf (by simp only[go_sem]) (by simp only[go_sem]) hB (fun _ _=>rfl)
  |false=>
   have Hm:fZ[x]?=some false:=by
    rw[cU] at hs;cases h1:fZ[x]? with
    |none=>rw[h1] at hs;cases hs
    |some b=>rw[h1] at hs;exact congrArg some hs
   have CQ:=LW Hm;have pt:=Yg ok x (by unfold nD at wD;exact wD);have cJ:=hi.step hm GJ wD hs;rw[hs] at hq;simp only[eH,if_false,BH] at hq;by_cases vY:x<2*ls.length
   .have aL:((x:Int)<((2*ls.length:Nat):Int)):=aa;have hb:(fZ.take (2*ls.length))[x]?=some false:=by rw[jY,aE vY];exact Hm
    have nv:=qo hb;have jl:=F4 (fZ.take (2*ls.length)) x true;rw[ae3] at jl;have aki:f.add F ls x={f with bj:=f.bj++[x]}:=by unfold Fc.add;rw[aE vY]
    simp only[go_sem,i128_l1,h2,h9,jL,l8,m2,aL,vY,hB.bS,hB.bF,nv,jl,oS,kF,kd0,nF];refine Nj (site:=8192512256) (id:=8192512256) (bytes:=8) (xs:=[[.int .i64 (x:Int)]]) (rd:=[8192512192]) (by simp[kd,kd0]) (hB.gd.of_eq ((aT ae).trans (aT (nSi rfl)))) (by simp[eN,aS]) (.inl rfl) (by simp only[cG,dp,eP];omega) fun c bd hc aZ=>?_;have GS:∀i,i≠8192512192->i≠8192512256->i≠j9->bd i=aj i:=fun i a b c=>(aZ i b b).trans ((aT a).trans (aT c))
    have akF:=(aZ j9 (nSi rfl).symm (nSi rfl).symm).trans ((aT (nSi rfl).symm).trans rC);have xr:=(GS 8192128448 ae ae (nSi rfl)).trans hB.bF;simp only[go_sem,xr,h0,jL,l8,kF,s126,JQ pt];refine ih (k+1) (aV ls x) (fZ.set x true) (f.add F ls x) _ _ c cp cf ?_ ?_ ?_ ?_ ?_ ?_ ?_ ?_ (by rw[rD];exact GJ) (VO ok wD) cJ aa aa Ha ?_
    .simp only[go_sem,h0]
    .simp only[go_sem,h2]
    .simp only[go_sem,h8]
    .simp only[go_sem,h9]
    .simp only[go_sem,dC]
    .simp only[go_sem,jL]
    .simp only[go_sem]
    .rw[aki];refine⟨?_,?_,?_,rC,?_,?_,?_⟩
     .exact(aT (nSi rfl).symm).trans akF
     .exact(aT (nBi rfl).symm).trans ((GS _ (nBi rfl).symm (nBi rfl).symm nSB.symm).trans hB.bB)
     .exact(aT ae).trans ((GS _ ae ae (nSi rfl)).trans hB.b8)
     .exact(wM _ _▸hc.of_eq (aT ae))
     .exact(hB.gp.of_eq (GS _ ae ae (nSi rfl))).of_eq (aT ae)
     exact(hB.gf.of_eq (GS _ ae ae (nSi rfl))).of_eq (aT ae)
    intro aI ao vH lX uJ q8 Dn vS cT;refine hq aI ao vH lX uJ (by rw[q8];simp only[go_sem]) (by rw[Dn];simp only[go_sem]) vS fun id hn=>?_;have a:∀y,r9 y->id≠y:=fun y hy e=>hn (.inl (e▸hy));exact(cT id hn).trans ((aT (a _ rfl)).trans (GS id (a _ rfl) (a _ rfl) fun e=>hn (.inr e)))
   have hj:(x-2*ls.length)/2<(aC ls).length:=by unfold nD at wD;omega
   have ub:=ao8 ok hF hj;have lP:=OA ok hj;have lF:=Oz ok hj;have xQ:¬((x:Int)<((2*ls.length:Nat):Int)):=aa;have ws:=Pj (a:=x) (b:=2*ls.length) aa aa;have wq:=wrap_small (n:=(x-2*ls.length)/2) aa;have w2:=DB (a:=(aC ls).length) aa aa;have Eo:((((x-2*ls.length)/2:Nat):Int)==(((aC ls).length-1:Nat):Int))=decide ((x-2*ls.length)/2+1=(aC ls).length):=by
    by_cases h:(x-2*ls.length)/2+1=(aC ls).length
    .rw[BP h];simp;omega
    rw[DG h];simp;omega
   have nE:(f.add F ls x).outer=(f.outer||decide ((x-2*ls.length)/2+1=(aC ls).length)):=by unfold Fc.add;rw[aD vY]
   have To:(f.add F ls x).eI=f.eI:=by unfold Fc.add;rw[aD vY]
   have Ty:(f.add F ls x).bj=f.bj:=by unfold Fc.add;rw[aD vY]
   have EB:(f.add F ls x).places=f.places++(if x%2=0 then pY F ls ((x-2*ls.length)/2) else (pY F ls ((x-2*ls.length)/2)).reverse):=by unfold Fc.add;rw[aD vY]
   have Kv:(f.add F ls x).rS=f.rS++(if x%2=0 then wP F ls ((x-2*ls.length)/2) else (wP F ls ((x-2*ls.length)/2)).reverse):=by unfold Fc.add;rw[aD vY]
   generalize f.add F ls x=f' at nE To Ty EB Kv hq Ha;have nI:S.lone 8192640128=false:=ah;have sc1:∀l:List (Nat×Nat),((dD l).all fun e=>e.all PV.scalar)=true:=fun l=>by simp[PV.scalar]
   have sc2:∀l:List Nat,((nP l).all fun e=>e.all PV.scalar)=true:=fun l=>by simp[PV.scalar]
   have hnP:∀l:List (Nat×Nat),∀e∈dD l,e.length=2/\ ∀v∈e,v.norm=v:=fun l e he=>by obtain⟨a,_,rfl⟩:=dy.1 he;exact⟨rfl,fun v hv=>by simp at hv;rcases hv with rfl|rfl<;>rfl⟩
   have hnF:∀l:List Nat,∀e∈nP l,e.length=1/\ ∀v∈e,v.norm=v:=fun l e he=>by obtain⟨a,_,rfl⟩:=dy.1 he;exact⟨rfl,fun v hv=>by simp at hv;rcases hv with rfl;rfl⟩
   have qe:S.shared 154=true:=ah;have shI:S.shared 155=true:=ah;have fS:(fZ.set x true).take (2*ls.length)=fZ.take (2*ls.length):=ae2 aa;generalize pY F ls ((x-2*ls.length)/2)=PP at*;generalize wP F ls ((x-2*ls.length)/2)=FF at*;simp only[go_sem,i128_l1,h0,h9,l8,m2,xQ,ws,wq,dF,eL,s153];refine ajW (by simp[kr1,kr2]) ub nI (sc1 _) (sc2 _) fun c e bt hc he hb=>?_;by_cases dA:x%2=0
   .have EA:((x:Int).tmod 2==1)=false:=by rw[ig,dA];rfl
    rw[aE dA] at EB Kv;have hP:=hc;have hE:=he;have AX:∀i,i≠8192640128->i≠8192640129->bt i=aj i:=hb;have bFN:=(AX 8192128448 ae ae).trans hB.bF;simp only[go_sem,dF,EA,bFN,jL,l8,kF];obtain⟨rP,EK,KR⟩:=hP.elems;refine ME (site:=8192896192) (id:=8192896192) (bytes:=16) (by rcases KR with rfl|rfl<;>simp[kp,kr1]) (hB.gp.of_eq (AX _ ae ae)) EK hP.eC (by simp only[cG];omega) fun c2 xt r1 u1 jO eo jT=>?_
    have xr:=(eo 8192128448 ae ae).trans bFN;simp only[go_sem,xr,jL,kF];obtain⟨rE,EJ,KQ⟩:=(hE.of_eq (eo _ ae ae)).elems;refine ME (site:=8192896448) (id:=8192896448) (bytes:=8) (by rcases KQ with rfl|rfl<;>simp[kf,kr2]) (hB.gf.of_eq ((eo _ ae ae).trans (AX _ ae ae))) EJ hE.eC (by simp only[cG];omega) fun c3 BZ r2 u2 uY Cr rj=>?_
    have sL:=(Cr 8192128448 ae ae).trans xr;have dx:∀i,i≠8192640128->i≠8192640129->i≠8192896192->i≠8192896448->BZ i=aj i:=fun i a b c d=>(Cr i d d).trans ((eo i c c).trans (AX i a b));have Tt:grown 8192896192 um 2 (dD f'.places) (.one c2) BZ:=by rw[EB,yu];exact jO.of_eq (Cr _ ae ae)
    have Tu:grown 8192896448 3 1 (nP f'.rS) (.one c3) BZ:=by rw[Kv,wM];exact uY
    clear jO uY;cases ho:f.outer;all_goals
     rw[ho] at sL;simp only[go_sem,sL,h0,dC,jL,l8,kF,w2,Eo,s126,JQ pt];refine⟨?_,?_⟩
     .rcases KR with rfl|rfl<;>rcases KQ with rfl|rfl<;>rcases jT with ⟨rfl,rfl⟩|⟨rfl,rfl⟩|⟨rfl,rfl⟩<;>rcases rj with ⟨rfl,rfl⟩|⟨rfl,rfl⟩|⟨rfl,rfl⟩<;>kernel_rfl
     refine ih (k+1) (aV ls x) (fZ.set x true) f' _ _ cd c2 c3 ?_ ?_ ?_ ?_ ?_ ?_ ?_ ?_ (by rw[rD];exact GJ) (VO ok wD) cJ aa aa Ha ?_
     .simp only[go_sem,h0]
     .simp only[go_sem,h2]
     .simp only[go_sem,h8]
     .simp only[go_sem,h9]
     .simp only[go_sem,dC]
     .simp only[go_sem,jL]
     .simp only[go_sem]
     .rw[fS];refine⟨?_,?_,?_,?_,?_,?_,?_⟩
      .exact(aT (nSi rfl).symm).trans ((aT (nSi rfl).symm).trans ((aT (nSi rfl).symm).trans ((dx _ (nSi rfl).symm (nSi rfl).symm (nSi rfl).symm (nSi rfl).symm).trans hB.bS)))
      .exact(aT (nBi rfl).symm).trans ((aT (nBi rfl).symm).trans ((aT (nBi rfl).symm).trans ((dx _ (nBi rfl).symm (nBi rfl).symm (nBi rfl).symm (nBi rfl).symm).trans hB.bB)))
      .exact(aT ae).trans ((aT ae).trans ((aT ae).trans ((dx _ ae ae ae ae).trans hB.b8)))
      .rw[rC,To,nE,ho];rfl
      .rw[Ty];exact hB.gd.of_eq ((aT ae).trans ((aT ae).trans ((aT ae).trans (dx _ ae ae ae ae))))
      .exact Tt.of_eq ((aT ae).trans ((aT ae).trans (aT ae)))
      exact Tu.of_eq ((aT ae).trans ((aT ae).trans (aT ae)))
     intro aI ao vH lX uJ q8 Dn vS cT;refine hq aI ao vH lX uJ (by rw[q8];simp only[go_sem]) (by rw[Dn];simp only[go_sem]) vS fun id hn=>?_;have a:∀y,r9 y->id≠y:=fun y hy e=>hn (.inl (e▸hy));exact(cT id hn).trans ((aT (a _ rfl)).trans ((aT (a _ rfl)).trans ((aT (a _ rfl)).trans (dx id (a _ rfl) (a _ rfl) (a _ rfl) (a _ rfl)))))
   have EA:((x:Int).tmod 2==1)=true:=by rw[ig,show x%2=1 by omega];rfl
   rw[aD dA] at EB Kv;simp only[go_sem,dF,EA,l8,qe];refine aak (f:=154) (fun o h=>ao6 o (by simp only[cG];omega) (hnP _) h) aql hc kr1 f1 fun bd gK aZ=>?_;simp only[go_sem,shI];refine aak (f:=155) (fun o h=>ao5 o (by simp only[cG];omega) (hnF _) h) aqk (he.of_eq (aZ _ ae)) kr2 f2 fun iQ he1 iU=>?_;have hP:grown 8192640128 um 2 (dD PP.reverse) (.one c) iQ:=by rw[dD,List.map_reverse];exact gK.of_eq (iU _ ae)
   have hE:grown 8192640129 3 1 (nP FF.reverse) (.one e) iQ:=by rw[nP,List.map_reverse];exact he1
   have AX:∀i,i≠8192640128->i≠8192640129->iQ i=aj i:=fun i a b=>(iU i b).trans ((aZ i a).trans (hb i a b));have bFN:=(AX 8192128448 ae ae).trans hB.bF;simp only[go_sem,bFN,jL,kF];obtain⟨rP,EK,KR⟩:=hP.elems;refine ME (site:=8192896192) (id:=8192896192) (bytes:=16) (by rcases KR with rfl|rfl<;>simp[kp,kr1]) (hB.gp.of_eq (AX _ ae ae)) EK hP.eC (by simp only[cG,vA];omega) fun c2 xt r1 u1 jO eo jT=>?_
   have xr:=(eo 8192128448 ae ae).trans bFN;simp only[go_sem,xr,jL,kF];obtain⟨rE,EJ,KQ⟩:=(hE.of_eq (eo _ ae ae)).elems;refine ME (site:=8192896448) (id:=8192896448) (bytes:=8) (by rcases KQ with rfl|rfl<;>simp[kf,kr2]) (hB.gf.of_eq ((eo _ ae ae).trans (AX _ ae ae))) EJ hE.eC (by simp only[cG,vA];omega) fun c3 BZ r2 u2 uY Cr rj=>?_
   have sL:=(Cr 8192128448 ae ae).trans xr;have dx:∀i,i≠8192640128->i≠8192640129->i≠8192896192->i≠8192896448->BZ i=aj i:=fun i a b c d=>(Cr i d d).trans ((eo i c c).trans (AX i a b));have Tt:grown 8192896192 um 2 (dD f'.places) (.one c2) BZ:=by rw[EB,yu];exact jO.of_eq (Cr _ ae ae)
   have Tu:grown 8192896448 3 1 (nP f'.rS) (.one c3) BZ:=by rw[Kv,wM];exact uY
   clear jO uY;cases ho:f.outer;all_goals
    rw[ho] at sL;simp only[go_sem,sL,h0,dC,jL,l8,kF,w2,Eo,s126,JQ pt];refine⟨?_,?_⟩
    .rcases KR with rfl|rfl<;>rcases KQ with rfl|rfl<;>rcases jT with ⟨rfl,rfl⟩|⟨rfl,rfl⟩|⟨rfl,rfl⟩<;>rcases rj with ⟨rfl,rfl⟩|⟨rfl,rfl⟩|⟨rfl,rfl⟩<;>kernel_rfl
    refine ih (k+1) (aV ls x) (fZ.set x true) f' _ _ cd c2 c3 ?_ ?_ ?_ ?_ ?_ ?_ ?_ ?_ (by rw[rD];exact GJ) (VO ok wD) cJ aa aa Ha ?_
    .simp only[go_sem,h0]
    .simp only[go_sem,h2]
    .simp only[go_sem,h8]
    .simp only[go_sem,h9]
    .simp only[go_sem,dC]
    .simp only[go_sem,jL]
    .simp only[go_sem]
    .rw[fS];refine⟨?_,?_,?_,?_,?_,?_,?_⟩
     .exact(aT (nSi rfl).symm).trans ((aT (nSi rfl).symm).trans ((aT (nSi rfl).symm).trans ((dx _ (nSi rfl).symm (nSi rfl).symm (nSi rfl).symm (nSi rfl).symm).trans hB.bS)))
     .exact(aT (nBi rfl).symm).trans ((aT (nBi rfl).symm).trans ((aT (nBi rfl).symm).trans ((dx _ (nBi rfl).symm (nBi rfl).symm (nBi rfl).symm (nBi rfl).symm).trans hB.bB)))
     .exact(aT ae).trans ((aT ae).trans ((aT ae).trans ((dx _ ae ae ae ae).trans hB.b8)))
     .rw[rC,To,nE,ho];rfl
     .rw[Ty];exact hB.gd.of_eq ((aT ae).trans ((aT ae).trans ((aT ae).trans (dx _ ae ae ae ae))))
     .exact Tt.of_eq ((aT ae).trans ((aT ae).trans (aT ae)))
     exact Tu.of_eq ((aT ae).trans ((aT ae).trans (aT ae)))
    intro aI ao vH lX uJ q8 Dn vS cT;refine hq aI ao vH lX uJ (by rw[q8];simp only[go_sem]) (by rw[Dn];simp only[go_sem]) vS fun id hn=>?_;have a:∀y,r9 y->id≠y:=fun y hy e=>hn (.inl (e▸hy));exact(cT id hn).trans ((aT (a _ rfl)).trans ((aT (a _ rfl)).trans ((aT (a _ rfl)).trans (dx id (a _ rfl) (a _ rfl) (a _ rfl) (a _ rfl)))))
structure bK (F:Nat) (ls:List Let):Prop where
 ok:dU F ls
 len:ls.length<=400
 cr:ay Let.aB ls<=200
 fing:F<=40
 ne:ls≠[]
 first:∃l,ls[0]?=some l/\l.aG=true
 even:ay Let.aG ls%2=0
 bad:∀l∈ls,dr F l=false
 chk:dT F ls=0
 nw:ky ls=ay Let.aG ls+ay Let.aB ls/2+2
theorem Ce{f:Int}(h:dT f ls=0)(aM:ls≠[]):∃F:Nat,f=(F:Int)/\bK F ls:=by
 have h0:=h;unfold dT at h;by_cases h1:400<ls.length\/200<ay Let.aB ls
 .rw[aE h1] at h;cases h
 rw[aD h1] at h;by_cases h2:f<0\/40<f
 .rw[aE h2] at h;cases h
 rw[aD h2,aD aM] at h;cases hv:ki f ls with
 |false=>rw[hv] at h;simp at h
 |true=>
  obtain⟨F,rfl⟩:=tu (show 0<=f by omega);refine⟨F,rfl,?_⟩;unfold ki at hv;simp only[cE] at hv;obtain⟨⟨⟨v1,v2⟩,v3⟩,v4⟩:=hv;obtain⟨cQ,jj,fk⟩:=Ux.1 v3;have AZ:∀l∈ls,dr F l=false:=fun l hl=>by simpa using Fz.1 cQ l hl
  have hg:pJ F ls:=fun l hl hp=>((sB hp).1 (AZ l hl)).1.1.1;obtain⟨g1,g2⟩:=(Lw hg).1 jj;obtain⟨l0,tX⟩:=aN (kY.2 aM);rw[tX] at v1;exact⟨⟨aa,⟨g1,g2⟩,fk,fun l hl=>Am (AZ l hl)⟩,aa,aa,aa,aM,⟨l0,tX,v1⟩,by simpa using v2,AZ,h0,by simpa using v4⟩
theorem bK.axne(g:bK F ls):aC ls≠[]:=by obtain⟨l,h1,h2⟩:=g.first;exact List.ne_nil_of_mem (qR.2 ⟨l,h1,h2⟩)
def ZI(F:Nat)(ls:List Let)(j9 gS:Nat)(x:Nat)(fZ:List Bool)(aj:aA)(v:V)(ao:aA):Prop:=
 ∃f cd cp cf,f=((eD (aV ls) (nD ls+1) x fZ).1).foldl (Fc.add F ls) (Fc.new ls x)/\v=.agg [.p (.bool f.eI),cd,cp,cf,.p (.bool f.outer)]/\ao j9=(gS,some (.arr 4 1 (bP ((eD (aV ls) (nD ls+1) x fZ).2.take (2*ls.length)))))/\
  grown 8192512256 3 1 (nP f.bj) (.one cd) ao/\grown 8192896192 um 2 (dD f.places) (.one cp) ao/\grown 8192896448 3 1 (nP f.rS) (.one cf) ao/\Kept (fun id=>r9 id\/id=j9) aj ao
theorem ajm{al:Al}{F:Nat}{ls:List Let}(ok:dU F ls)(hF:F<=1000)(okf:∀id,r9 id->al.ok id=true){j9 gS idB gB x:Nat}(oS:al.ok j9=true)(oB:al.ok idB=true)(nS:¬r9 j9)(nB:¬r9 idB)(nSB:j9≠idB)(f1:al.fs.contains 154=true)(f2:al.fs.contains 155=true){fZ:List Bool}{aj:aA}
  (hx:x<2*ls.length) (GJ:fZ.length=nD ls) (dM:IY (aV ls) (nD ls) fZ) (hs:fZ.getD x true=false) (bS:aj j9=(gS,some (.arr 4 1 (bP (fZ.take (2*ls.length)))))) (bB:aj idB=(gB,some (.arr 4 1 (bP (An ls))))):
  ∃v ao,iA S 128 [.one (.p (rM F ls)),vi x,.one (.hsl j9 gS 1 0 (2*ls.length)),.one (.hsl idB gB 1 0 ls.length)] al aj v ao/\ZI F ls j9 gS x fZ aj v ao:=by
 have hl:=ok.hl;have fO:(aC ls).length<=ls.length:=qQ ls ls.length;have eV:nD ls<=4000000:=by unfold nD;omega
 have k0:al.ok 8192000000=true:=okf _ rfl;have kF:al.ok 8192128448=true:=okf _ rfl;have wq:=wrap_small (n:=x/2) aa;have yj:x/2<ls.length:=aa;have akp:=qo (ahl yj);have nSi:∀ {a:Nat},r9 a->a≠j9:=fun h e=>nS (e▸h);have nBi:∀ {a:Nat},r9 a->a≠idB:=fun h e=>nB (e▸h);have nB0:¬(idB=8192000000):=fun e=>nBi rfl e.symm
 have hul:=Ix fZ;refine mz c128 (gj rfl) ?_;simp only[go_sem,i128,bB,nB0,k0,kF,oB,dF,eL,wq,yj,akp];refine⟨aH,?_⟩;refine ajj ok hF okf (j9:=j9) (gS:=gS) (idB:=idB) (gB:=gB) (g8:=(aj 8192000000).1+1) (gF:=(aj 8192128448).1+1) (d:=x) oS nS nB nSB f1 f2 hx (nD ls+1) 0 x fZ (Fc.new ls x) _ _ (.p .nils) (.p .nils) (.p .nils) ?_ ?_ ?_ ?_ ?_ ?_ ?_ ?_ GJ (by unfold nD;omega) (Inv.start dM hs) aa aa ⟨cA _,bn _,bn _⟩ ?_
 .simp only[go_sem]
 .simp only[go_sem]
 .simp only[go_sem]
 .simp only[go_sem]
 .simp only[go_sem]
 .simp only[go_sem]
 .simp only[go_sem]
 .refine⟨?_,?_,?_,?_,grown.nil,grown.nil,grown.nil⟩
  .simp only[aT (nSi (a:=8192000000) rfl).symm,aT (nSi (a:=8192128448) rfl).symm,bS]
  .simp only[aT (nBi (a:=8192000000) rfl).symm,aT (nBi (a:=8192128448) rfl).symm,bB]
  .simp only[go_sem]
  simp only[go_sem,Fc.new]
 intro aI ao vH lX uJ q8 Dn vS cT;simp only[go_sem] at q8 Dn;have h8:=vS.b8;have hf:=vS.bF;simp only[go_sem,i128_r2,q8,Dn,h8,hf,k0,kF];refine⟨_,vH,lX,uJ,rfl,rfl,?_,?_,?_,?_,fun id hn=>?_⟩
 .exact(aT (nSi rfl).symm).trans vS.bS
 .exact vS.gd.of_eq (aT ae)
 .exact vS.gp.of_eq (aT ae)
 .exact vS.gf.of_eq (aT ae)
 have a:∀y,r9 y->id≠y:=fun y hy e=>hn (.inl (e▸hy));refine(aT (a _ rfl)).trans ((cT id hn).trans ?_);simp only[aT (a 8192000000 rfl),aT (a 8192128448 rfl)]
theorem vM{s1 t1 z1:Nat}{es:List (List PV)}{c:C}{x:PV}{aj:aA}(h:grown s1 t1 z1 es (.one c) aj):fv aj (.tup [.one c,.one (.p x)])=some (.tup [.one (aO t1 z1 es),.one (.p x)]):=by obtain⟨c',o,hc,h2,h3⟩:=h.fm;cases hc;rcases h3 with rfl|rfl<;>simp[fv,ll,qU,jx,iY,h2,(show Go.Abs.fm aj (.p x)=some (.p x,[],[]) from rfl),apart,oQ,mq,yw]
theorem HZ{aj:aA}{id g g0 z o l ty sz:Nat}{es:List (List PV)}(h:aj id=(g0,some (.arr ty sz es))):jr aj (.one (.hsl id g z o l))=[id]:=(HY h:kU aj 6 (.hsl id g z o l)=[id])
theorem aqh:(S.sites 128).contains 128=true:=ah
theorem aqi:(S.sites 128).contains 154=true:=ah
theorem aqj:(S.sites 128).contains 155=true:=ah
theorem ae1{S:List Bool}{n k:Nat}{b:Bool}(hk:k<n)(hn:n<=S.length)(h:S.getD k true=b):(S.take n)[k]?=some b:=by rw[jY,aE hk];rw[cU] at h;obtain⟨c,hc⟩:=aN (show k<S.length by omega);rw[hc] at h ⊢;exact congrArg some h
theorem ajq(g:bK F ls):aJ S 108 [cY F ls] (.tup [.one (aO sR 5 (jw (de F ls))),.one (.p (.int .i64 0))]):=by
 have ok:=g.ok;have hl:=ok.hl;have hF:F<=1000:=by have:=g.fing;omega
 have fO:(aC ls).length<=ls.length:=qQ ls ls.length;have hlen:=g.len;have eV:nD ls<=4000000:=by unfold nD;omega
 have h2n:2*ls.length<=nD ls:=by unfold nD;omega
 have pr:=Vm F ls hl;rw[OH g.chk,aD g.ne,wX] at pr;have pb:=ahn ok;have hm:=maps ok;have m2:=qL (a:=ls.length) aa;have jC:2*ls.length<=140737488355328:=aa;have ED:List.replicate (2*ls.length) [PV.bool false]=bP ((dt (aV ls) (nD ls) 0).2.take (2*ls.length)):=by show _=bP ((List.replicate (nD ls) false).take (2*ls.length));rw[List.take_replicate,zZ h2n];simp
 have hLB:∀aj:aA,land aj [] 6912384064 ((RV.one (.own 4 1 (bP (An ls)))).eG (S.lone 6912384064))=some (.one (.hsl 6912384064 ((aj 6912384064).1+1) 1 0 ls.length),[(6912384064,((aj 6912384064).1+1,some (.arr 4 1 (bP (An ls)))))]):=by intro aj;rw[show S.lone 6912384064=false by kernel_rfl];show some (V.one (.hsl 6912384064 ((aj 6912384064).1+1) 1 0 (bP (An ls)).length),_)=_;rw[show(bP (An ls)).length=ls.length by simp[sM]];rfl
 have iu:S.shared 128=true:=ah;refine bc c108 ?_;simp only[go_sem,i108,s38,cK pr gn,s127,cK pb (hLB _),m2,jC,ED];refine cS (fun k ak aj=>ak 4=.one (.p (rM F ls))/\ak 7=.one (.hsl 6912320448 1 1 0 (2*ls.length))/\ak 8=.one (.hsl 6912384064 1 1 0 ls.length)/\ak 29=vi ((2*ls.length:Nat):Int)/\ak 30=vi k/\
   aj 6912320448=(1,some (.arr 4 1 (bP ((dt (aV ls) (nD ls) k).2.take (2*ls.length)))))/\aj 6912384064=(1,some (.arr 4 1 (bP (An ls))))/\
   ∃vo,ak 6=.one vo/\grown 6912704448 sR 5 (jw ((dt (aV ls) (nD ls) k).1.map (iH F ls))) (.one vo) aj) 0 (2*ls.length) (bn _) ?_ ?_
 .simp only[go_sem];first|exact⟨rfl,rfl,rfl,_,rfl,.inl ⟨rfl,rfl⟩⟩|exact⟨rfl,rfl,_,rfl,.inl ⟨rfl,rfl⟩⟩|exact⟨rfl,_,rfl,.inl ⟨rfl,rfl⟩⟩|exact⟨rfl,rfl,rfl,rfl,_,rfl,.inl ⟨rfl,rfl⟩⟩
 rintro k ak aj hk ⟨h4,h7,h8,h29,h30,bS,bB,vo,h6,go⟩
 by_cases au:k<2*ls.length
 .have aL:((k:Int)<((2*ls.length:Nat):Int)):=aa;have w1:=bQ (n:=k) aa;obtain⟨dM,_⟩:=Pd hm k aa;have TI:=Fq (aV ls) (nD ls) k;have CJ:=IA (aV ls) (nD ls) k;have cJ:=wW (aV ls) (nD ls) k;generalize hw:dt (aV ls) (nD ls) k=st at*;obtain⟨o,fZ⟩:=st;simp only at dM TI CJ bS go;unfold tq at cJ;cases hs:fZ.getD k true with
  |true=>simp only[hs,if_true] at cJ;have hb:=qo (ae1 au aa hs);simp only[go_sem,i108_l1,h4,h6,h7,h8,h29,h30,bS,bB,au,aL,hb,w1,cJ];exact⟨vo,rfl,go⟩
  |false=>
   simp only[hs,eH,if_false,TI] at cJ;have hb:=qo (ae1 au aa hs);obtain⟨t,ht⟩:=afk (aV ls) (k:=nD ls) hs;have wh:((eD (aV ls) (nD ls+1) k fZ).1).foldl (Fc.add F ls) (Fc.new ls k)=iH F ls (eD (aV ls) (nD ls+1) k fZ).1:=by unfold iH;rw[ht];rfl
   have dV:=ZG (F:=F) (t:=t) au;rw[<- ht] at dV;simp only[go_sem,i108_l1,h4,h6,h7,h8,h29,h30,bS,bB,au,aL,hb,iu];have aa6:jr aj (.one (.hsl 6912320448 1 1 0 (2*ls.length)))=[6912320448]:=HZ bS;have KS:jr aj (.one (.hsl 6912384064 1 1 0 ls.length))=[6912384064]:=HZ bB;refine rV (P:=ZI F ls 6912320448 1 k fZ aj) wB (ajm ok hF (fun id h=>Ae (by rw[h];exact aqh)) (xl ?_) (xl ?_) ae ae ae ?_ ?_ au TI dM hs bS bB) ?_
   .simp only[eE,kX,aa6,KS];simp
   .simp only[eE,kX,aa6,KS];simp
   .exact aqi
   .exact aqj
   rintro v bt ⟨f,cd,cp,cf,hf,rfl,bS1,gd,gp,gf,cT⟩
   rw[wh] at hf;rw[<- hf] at dV;have Jd:=(cT 6912384064 ae).trans bB;have go1:=go.of_eq (cT 6912704448 ae);have nE:jw (o.map (iH F ls))++[f.ps]=jw ((dt (aV ls) (nD ls) (k+1)).1.map (iH F ls)):=by rw[cJ,hf];simp
   have hS2:(dt (aV ls) (nD ls) (k+1)).2=(eD (aV ls) (nD ls+1) k fZ).2:=by rw[cJ]
   have ak4:(jw (o.map (iH F ls))).length<=k:=by simpa using CJ
   generalize jw (o.map (iH F ls))=outs at go1 nE ak4;have gd0:=gd;rcases gd with ⟨e,_⟩|⟨_,gg,e,hbd⟩
   .simp at e;exact absurd e dV
   cases e;simp only[go_sem];rw[cG] at gd0;obtain⟨fr,hx,wg,A4⟩:=Yn (aj:=df bt 6912704384 ((bt 6912704384).1+1,some (.gQ sR 5 [[.p (.bool f.eI),.hsl 8192512256 gg 1 0 f.bj.length,cp,cf,.p (.bool f.outer)]]))) (s:=6912704384) rC (gd0.of_eq (aT ae)) (gp.of_eq (aT ae)) (gf.of_eq (aT ae));have nf:∀i,i≠8192512256->i≠8192896192->i≠8192896448->i∉fr:=fun i a b c h=>by
    rcases A4 i h with h|h|h
    .exact a h
    .exact b h
    exact c h
   refine Z9 (site:=6912704448) (id:=6912704448) (bytes:=88) (go1.of_eq (aT ae)) hx wg (nf _ ae ae ae) (nf _ ae ae ae) (.inl rfl) (by simp only[dp,eP];omega) fun c bd hc aZ=>?_;have BS':=(aZ 6912320448 ae ae (nf _ ae ae ae)).trans ((aT ae).trans bS1);have BB':=(aZ 6912384064 ae ae (nf _ ae ae ae)).trans ((aT ae).trans Jd);simp only[go_sem,h4,h6,h7,h8,h29,h30,BS',BB',w1,au,hS2];refine⟨c,rfl,?_⟩;rw[<- nE];exact hc
 have:k=2*ls.length:=aa;subst this;simp only[go_sem,i108_l1,i108_r2,h6,h29,h30,dI];have:=VW hm (nD ls) h2n (cA _);unfold de dR;rw[this];exact vM go
structure Pc where
 l:Let
 d:Bool
def Pc.ps(p:Pc):List PV:=[.int .i64 p.l.kind,.int .i64 p.l.gate,.int .i64 p.l.aw,.int .i64 p.l.id,.int .i64 p.l.sign,.bool p.l.over,.bool p.d]
abbrev dB(o:List Pc):List (List PV):=o.map Pc.ps
abbrev kQ:Nat:=171
def iM:Let:=⟨0,0,0,0,0,false⟩
def pieces(ls:List Let):List Pc:=(List.range ls.length).map fun i=>⟨ls.getD i iM,gY ls i⟩
theorem fG(ls:List Let):(pieces ls).length=ls.length:=by simp[pieces]
theorem kS{i:Nat}{l:Let}(h:ls[i]?=some l):(pieces ls)[i]?=some ⟨l,gY ls i⟩:=by have:=(aY.1 h).1;simp only[pieces,gh,sI this,mw,cU,h,kE]
theorem iZ{o:List Pc}{k:Nat}{p:Pc}(h:o[k]?=some p):(dB o)[k]?=some p.ps:=by simp[h]
def mW(L:List Nat)(ds:List Nat)(v:Nat):List Nat:=ds.foldl (fun L d=>L.set d v) L
def oL:List Fc->Nat->List Nat->List Nat
 |[],_,L=>L
 |f::r,j,L=>oL r (j+1) (mW L f.bj j)
def mS(F:Nat)(ls:List Let):List Nat:=oL (de F ls) 0 (List.replicate (2*ls.length) 0)
theorem LD(L ds:List Nat)(v:Nat):(mW L ds v).length=L.length:=by
 induction ds generalizing L with
 |nil=>rfl
 |cons d ds ih=>show(mW (L.set d v) ds v).length=_;rw[ih];simp
theorem apt(L a b:List Nat)(v:Nat):mW L (a++b) v=mW (mW L a v) b v:=by simp[mW]
theorem NW(fs:List Fc):∀(j:Nat) (L:List Nat),(oL fs j L).length=L.length:=by
 induction fs with
 |nil=>intro j L;rfl
 |cons f r ih=>intro j L;show(oL r (j+1) _).length=_;rw[ih,LD]
theorem amo(a:List Fc)(f:Fc):∀(j:Nat) (L:List Nat),oL (a++[f]) j L=mW (oL a j L) f.bj (j+a.length):=by
 induction a with
 |nil=>intro j L;rfl
 |cons g r ih=>intro j L;show oL (r++[f]) (j+1) _=_;rw[ih];simp[oL];congr 1;omega
theorem ags(F:Nat)(ls:List Let):∀(w:List Nat) (f:Fc),(w.foldl (Fc.add F ls) f).bj=f.bj++w.filter (fun x=>decide (x<2*ls.length)):=by
 intro w
 induction w with
 |nil=>intro f;simp
 |cons x w ih=>
  intro f;rw[BH,ih];unfold Fc.add;by_cases h:x<2*ls.length
  .rw[aE h,List.filter_cons_of_pos (by simpa using h)];simp
  rw[aD h,Wh (by simpa using h)]
theorem D0(F:Nat)(ls:List Let)(w:List Nat):(iH F ls w).bj=w.filter (fun x=>decide (x<2*ls.length)):=by unfold iH;rw[ags];rfl
theorem S5{f:Fc}(h:f∈de F ls):∀d∈f.bj,d<2*ls.length:=by
 obtain⟨w,_,rfl⟩:=dy.1 h;intro d hd;rw[D0] at hd
 simpa using (uA.1 hd).2
theorem M7(ok:dU F ls){f:Fc}(h:f∈de F ls):f.bj.length<=nD ls:=by obtain⟨w,hw,rfl⟩:=dy.1 h;rw[D0];exact lf (List.length_filter_le _ _) (IB ok w hw).2.1
theorem S6(F:Nat)(ls:List Let):(de F ls).length=ky ls:=by simp[de,ky]
theorem M8{o:List Fc}{k:Nat}{p:Fc}(h:o[k]?=some p):(jw o)[k]?=some p.ps:=by simp[h]
abbrev ek(F:Nat)(ls:List Let):PV:=.box [.int .i64 F,.sl (dB (pieces ls)),.sl (jw (de F ls)),.sl (nP (mS F ls)),.int .i64 (ay Let.aG ls:Nat),.int .i64 ((ay Let.aB ls/2:Nat):Int),.sl (nP (counts ls F))]
abbrev Ji(F:Nat)(ls:List Let)(pc cf:C):List C:=[.p (.int .i64 F),pc,cf,.hsl 4928256448 1 1 0 (2*ls.length),.p (.int .i64 (ay Let.aG ls:Nat)),.p (.int .i64 ((ay Let.aB ls/2:Nat):Int)),.hsl 4928256960 1 1 0 (F+1)]
theorem ano{F:Nat}{ls:List Let}(g:bK F ls){pc cf:C}{ak:Env}{aj:aA}{Q:dS}(h4:ak 4=.one cf)(h6:ak 6=.one (.ba 4928257088 1 0))
  (bB:aj 4928257088=(1,some (.var (Ji F ls pc cf)))) (bL:aj 4928256448=(1,some (.arr 3 1 (nP (List.replicate (2*ls.length) 0))))) (bC:aj 4928256960=(1,some (.arr 3 1 (nP (counts ls F))))) (gp:grown 4928896448 kQ 7 (dB (pieces ls)) (.one pc) aj) (gf:grown 4928064064 sR 5 (jw (de F ls)) (.one cf) aj)
  (hq:∀aI ao,aI 6=ak 6->ao 4928257088=(1,some (.var (Ji F ls pc cf)))->ao 4928256448=(1,some (.arr 3 1 (nP (mS F ls))))->ao 4928256960=(1,some (.arr 3 1 (nP (counts ls F))))->grown 4928896448 kQ 7 (dB (pieces ls)) (.one pc) ao->grown 4928064064 sR 5 (jw (de F ls)) (.one cf) ao->W S .all i77_r5 Q aI ao):
  W S .all i77_r6 Q ak aj:=by
 have ok:=g.ok;have hl:=ok.hl;have hlen:=g.len;have fO:(aC ls).length<=ls.length:=qQ ls ls.length;have eV:nD ls<=4000000:=by unfold nD;omega
 have tU:(de F ls).length<=nD ls:=by rw[de,cG];exact IA (aV ls) (nD ls) _
 obtain⟨g0,Tv⟩:∃gg,cf=.hsl 4928064064 gg 5 0 (de F ls).length:=by
  rcases gf with ⟨e,_⟩|⟨_,gg,e,hb⟩
  .have h1:(de F ls).length=0:=by simpa using congrArg List.length e
   rw[S6,g.nw] at h1;omega
  cases e;exact⟨gg,by rw[cG]⟩
 have vR:=h4;rw[Tv] at vR;simp only[go_sem,i77_r6,vR];refine cS (fun k aI ao=>aI 6=ak 6/\aI 78=.one cf/\aI 79=vi (de F ls).length/\aI 80=vi k/\ao 4928257088=(1,some (.var (Ji F ls pc cf)))/\ao 4928256448=(1,some (.arr 3 1 (nP (oL ((de F ls).take k) 0 (List.replicate (2*ls.length) 0)))))/\ao 4928256960=(1,some (.arr 3 1 (nP (counts ls F))))/\
   grown 4928896448 kQ 7 (dB (pieces ls)) (.one pc) ao/\grown 4928064064 sR 5 (jw (de F ls)) (.one cf) ao) 0 (de F ls).length (bn _) ?_ ?_
 .simp only[go_sem,bB,bL,bC,oL,Tv];exact⟨rfl,gp,by first|exact gf|(rw[<- Tv];exact gf)⟩
 rintro k aI ao hk ⟨q6,h78,h79,h80,bB,bL,bC,gp,gf⟩
 rw[h6] at q6;by_cases au:k<(de F ls).length
 .have aL:((k:Int)<((de F ls).length:Int)):=aa;obtain⟨f,hf⟩:=aN au;have Er:=M8 hf;have nC:=aW hf;have Kk:=M7 ok nC;have hdd:=S5 nC;have w1:=bQ (n:=k) aa;have fS:oL ((de F ls).take (k+1)) 0 (List.replicate (2*ls.length) 0)=mW (oL ((de F ls).take k) 0 (List.replicate (2*ls.length) 0)) f.bj k:=by
   rw[iw,hf];show oL (_++[f]) 0 _=_;rw[amo,iF,zZ aa,jt]
  have hLl:(oL ((de F ls).take k) 0 (List.replicate (2*ls.length) 0)).length=2*ls.length:=by rw[NW,Wm]
  generalize oL ((de F ls).take k) 0 (List.replicate (2*ls.length) 0)=L at bL fS hLl;obtain⟨gg,tQ,bf⟩:∃gg,cf=.hsl 4928064064 gg 5 0 (jw (de F ls)).length/\ao 4928064064=(gg,some (.arr sR 5 (jw (de F ls)))):=by
   rcases gf with ⟨e,_⟩|⟨_,gg,e,hb⟩
   .have:(de F ls).length=0:=by simpa using congrArg List.length e
    omega
   cases e;exact⟨gg,rfl,hb⟩
  rw[cG] at tQ;have Tn:=h78;rw[tQ] at Tn;simp only[go_sem,i77_l4,Tn,h79,h80,bf,Er,Fc.ps,au,aL];refine cS (fun j cP bd=>cP 6=.one (.ba 4928257088 1 0)/\cP 11=vi k/\cP 78=.one cf/\cP 79=vi (de F ls).length/\cP 80=vi k/\cP 86=.one (.p (.sl (nP f.bj)))/\cP 87=vi f.bj.length/\cP 88=vi j/\
   bd 4928257088=(1,some (.var (Ji F ls pc cf)))/\bd 4928256448=(1,some (.arr 3 1 (nP (mW L (f.bj.take j) k))))/\bd 4928256960=(1,some (.arr 3 1 (nP (counts ls F))))/\grown 4928896448 kQ 7 (dB (pieces ls)) (.one pc) bd/\grown 4928064064 sR 5 (jw (de F ls)) (.one cf) bd) 0 f.bj.length (bn _) ?_ ?_
  .simp only[go_sem,q6,tQ,Tn,h79,h80,bB,bL,bC,mW,Wj];refine⟨rfl,gp.of_eq (aT ae),?_⟩;first|exact gf.of_eq (aT ae)|(rw[<- tQ];exact gf.of_eq (aT ae))
  rintro j cP bd hj ⟨p6,p11,p78,p79,p80,p86,p87,p88,cB,cL,cC,cp,cg⟩
  by_cases re:j<f.bj.length
  .have Ey:((j:Int)<(f.bj.length:Int)):=aa;obtain⟨d,hd⟩:=aN re;have j5:=ia hd;have hdb:=hdd d (aW hd);have w2:=bQ (n:=j) aa;have jl:(mW L (f.bj.take j) k).set d k=mW L (f.bj.take (j+1)) k:=by rw[iw,hd,apt];rfl
   have eW:=HG (mW L (f.bj.take j) k) d k;rw[jl] at eW;obtain⟨v0,hv0⟩:=aN (ls:=mW L (f.bj.take j) k) (k:=d) (by rw[LD,hLl];exact hdb);have hv:=ia hv0;simp only[go_sem,i77_l2,p6,p11,p78,p79,p80,p86,p87,p88,cB,cL,cC,re,Ey,j5,hdb,hv,eW,w2];exact⟨cp.of_eq (aT ae),cg.of_eq (aT ae)⟩
  have:j=f.bj.length:=aa;subst this;rw[jf,<- fS] at cL;simp only[go_sem,i77_l2,i77_r3,p6,p78,p79,p80,p87,p88,cB,cL,cC,dI,w1,au,h6];exact⟨cp,cg⟩
 have:k=(de F ls).length:=aa;subst this;rw[jf] at bL;simp only[go_sem,i77_l4,h79,h80,dI];exact hq _ _ (by simp only[go_sem,q6,h6]) bB bL bC gp gf
theorem UU(g:bK F ls):aJ S 77 [cY F ls] (yx (ek F ls) (.int .i64 0)):=by
 have ok:=g.ok;have hl:=ok.hl;have hlen:=g.len;have xS:=g.fing;have pf:=ajq g;have pps:=U0 F ls hl;have pcs:=X1 F ls hl;have lo:S.lone 4928064064=false:=ah;have m2:=qL (a:=ls.length) aa;have wF:=bQ (n:=F) aa;have r1:2*ls.length*8<=140737488355328:=aa;have r2:(F+1)*8<=140737488355328:=aa;have e1:List.replicate (2*ls.length) [PV.int .i64 0]=nP (List.replicate (2*ls.length) 0):=af;have e2:List.replicate (F+1) [PV.int .i64 0]=nP (qu ls F 0):=by rw[QB];simp
 refine bc c77 ?_;simp only[go_sem,i77,s108];refine aad pf lo fun cf nh tQ r4=>?_;have Jb:=r4 4928000000 ae;simp only[go_sem] at Jb;simp only[go_sem,Jb,m2,wF,r1,r2,s109,s110,gR pps,gR pcs,e1,e2];refine⟨aH,?_⟩;have hz:∀j,j≠4928064064->j≠4928000000->nh j=(0,none):=fun j a b=>(r4 j a).trans (aT b);have z1:=hz 4928256448 ae ae;have z2:=hz 4928256960 ae ae;have z3:=hz 4928257088 ae ae;refine cS (fun k ak aj=>ak 4=.one cf/\ak 6=.one (.ba 4928257088 1 0)/\ak 7=vb (dn ls k)/\ak 42=.one (.p (hU ls))/\ak 43=vi ls.length/\ak 44=vi k/\
   aj 4928256448=(1,some (.arr 3 1 (nP (List.replicate (2*ls.length) 0))))/\aj 4928256960=(1,some (.arr 3 1 (nP (qu ls F k))))/\
   ∃pc,aj 4928257088=(1,some (.var (Ji F ls pc cf)))/\grown 4928896448 kQ 7 (dB ((pieces ls).take k)) (.one pc) aj/\grown 4928064064 sR 5 (jw (de F ls)) (.one cf) aj) 0 ls.length (bn _) ?_ ?_
 .simp only[go_sem,z1,z2,z3];refine⟨rfl,rfl,.p .nils,rfl,.inl ⟨rfl,rfl⟩,tQ.of_eq ?_⟩;simp only[go_sem]
 rintro k ak aj hk ⟨h4,h6,h7,rZ,JY,JZ,bL,bC,pc,bB,gp,gf⟩
 by_cases au:k<ls.length
 .obtain⟨l,cH⟩:=aN au;have hi:=gE cH;have aL:((k:Int)<(ls.length:Int)):=aa;have w1:=bQ (n:=k) aa;have vc:=kS cH;cases hp:(l.kind==1) with
  |false=>
   have gU:l.aG=false:=hp;have j5:gY ls k=false:=by simp[gY,cH,gU]
   rw[j5] at vc;have hd:=Jt cH gU;have vX:=XY (F:=F) cH gU;have fS:dB ((pieces ls).take (k+1))=dB ((pieces ls).take k)++[(Pc.mk l false).ps]:=by rw[iw,vc];simp
   simp only[go_sem,i77_l1,h6,rZ,JY,JZ,hi,Let.ps,aL,hp,bB];refine tJ (site:=4928896448) (id:=4928896448) (bytes:=56) (xs:=[(Pc.mk l false).ps]) (rd:=[4928896384]) (gp.of_eq (by simp only[aS,Nat.reduceEqDiff,if_false])) (by simp[eN,aS,Pc.ps]) (.inl rfl) (by simp only[cG,dp,eP,iF,fG];omega) fun c bt r u hc hb hr=>?_;have r5:∀i,i≠4928896448->i≠4928896384->i≠4928576128->i≠4928512128->i≠4928256960->bt i=aj i:=fun i a b c d e=>(hb i a a).trans (by simp only[aS,aD b,aD c,aD d])
   have El:=(hb 4928256960 ae ae);simp only[aS,Nat.reduceEqDiff,if_false,bC] at El;have Jd:=(r5 4928257088 ae ae ae ae ae).trans bB;have bL1:=(r5 4928256448 ae ae ae ae ae).trans bL;simp only[go_sem,h4,h6,h7,rZ,JY,JZ,Jd,bL1,El,w1,hd,vX,au];refine⟨?_,?_⟩
   .rcases hr with ⟨rfl,rfl⟩|⟨rfl,rfl⟩|⟨rfl,rfl⟩<;>kernel_rfl
   refine⟨c,rfl,?_,?_⟩
   .rw[fS];exact hc.of_eq (aT ae)
   exact gf.of_eq ((aT ae).trans (r5 _ ae ae ae ae ae))
  |true=>
   have gU:l.aG=true:=hp;have j5:gY ls k=dn ls k:=by simp[gY,cH,gU]
   rw[j5] at vc;have hd:=Js cH gU;have fS:dB ((pieces ls).take (k+1))=dB ((pieces ls).take k)++[(Pc.mk l (dn ls k)).ps]:=by rw[iw,vc];simp
   have xU:=ok.ax.eJ l (aW cH) gU;obtain⟨G,hG⟩:=tu xU.g0;have GI:G<=F:=by have:=xU.g1;omega
   have Eg:G<F+1:=aa;have uZ:=ia (XW (ls:=ls) (k:=k) GI);have dM:cg (ls.take k) G<=k:=xv _ _ _;have w2:=bQ (n:=cg (ls.take k) G) aa;have s1:=HG (qu ls F k) G (cg (ls.take k) G+1);rw[<- XX cH gU hG] at s1;simp only[go_sem,i77_l1,h6,h7,rZ,JY,JZ,hi,Let.ps,aL,hp,hG,bB,bC,uZ,Eg,w2,s1];refine⟨aH,?_⟩;refine tJ (site:=4928896448) (id:=4928896448) (bytes:=56) (xs:=[(Pc.mk l (dn ls k)).ps]) (rd:=[4928896384]) (gp.of_eq (by simp only[aS,Nat.reduceEqDiff,if_false])) (by simp[eN,aS,Pc.ps,hG]) (.inl rfl) (by simp only[cG,dp,eP,iF,fG];omega) fun c bt r u hc hb hr=>?_
   have r5:∀i,i≠4928896448->i≠4928896384->i≠4928576128->i≠4928512128->i≠4928256960->bt i=aj i:=fun i a b c d e=>(hb i a a).trans (by simp only[aS,aD b,aD c,aD d,aD e]);have El:=(hb 4928256960 ae ae);simp only[aS,Nat.reduceEqDiff,if_false,if_true,bC] at El;have Jd:=(r5 4928257088 ae ae ae ae ae).trans bB;have bL1:=(r5 4928256448 ae ae ae ae ae).trans bL;simp only[go_sem,h4,h6,h7,rZ,JY,JZ,Jd,bL1,El,w1,hd,au];refine⟨?_,?_⟩
   .rcases hr with ⟨rfl,rfl⟩|⟨rfl,rfl⟩|⟨rfl,rfl⟩<;>kernel_rfl
   refine⟨c,rfl,?_,?_⟩
   .rw[fS];exact hc.of_eq (aT ae)
   exact gf.of_eq ((aT ae).trans (r5 _ ae ae ae ae ae))
 have:k=ls.length:=aa;subst this;rw[eY (by rw[fG];exact cA _)] at gp;rw[QA] at bC;simp only[go_sem,i77_l1,JY,JZ,dI];refine ano g (pc:=pc) (cf:=cf) ?_ ?_ bB bL bC gp gf ?_
 .simp only[go_sem,h4]
 .simp only[go_sem,h6]
 intro aI ao q6 cB cL cC gp' gf';simp only[go_sem,h6] at q6;obtain⟨rp,np,_⟩:=gp'.VA (n:=4);obtain⟨rf,nf,_⟩:=gf'.VA (n:=4);have t1:List.take (2*ls.length) (nP (mS F ls))=nP (mS F ls):=eY (by simp[mS,NW]);have t2:List.take (F+1) (nP (counts ls F))=nP (counts ls F):=eY (by simp[counts]);have n1:2*ls.length<=(mS F ls).length:=by simp[mS,NW]
 have n2:F+1<=(counts ls F).length:=by simp[counts]
 simp only[go_sem,i77_r5,q6];simp only[go_sem,fv,ll,qU,jx,iY,fm,cB,cL,cC,np,nf,t1,t2,n1,n2];rfl
theorem nT{x:Int}(h1: -9223372036854775808<=x)(h2:x<=9223372036854775807):IntKind.i64.wrap x=x:=by
 have e:(2 ^ IntKind.i64.bits:Int)=18446744073709551616:=ae;have e2:(2 ^ (IntKind.i64.bits-1):Int)=9223372036854775808:=ae;unfold IntKind.wrap;simp only[e,e2];by_cases h:0<=x
 .have h3:x%18446744073709551616=x:=aa;rw[h3];have h4:¬x≥9223372036854775808:=aa;simp[h4]
 have h3:x%18446744073709551616=x+18446744073709551616:=aa;rw[h3];have h4:x+18446744073709551616≥9223372036854775808:=aa;have h5:IntKind.i64.signed=true:=rfl;simp[h4,h5]
theorem aq2(l:List Pc):eC 7 (dB l)=true:=by simp[eC,Pc.ps]
theorem Bt(l:List Pc):((dB l).all fun e=>e.all PV.scalar)=true:=by simp[Pc.ps,PV.scalar]
abbrev CV(l x:List Pc)(k:Nat):List Pc:=l.take (k+1)++x++l.drop (k+1)
theorem adJ(a b:List Pc):dB (a++b)=dB a++dB b:=af
theorem ahX(p:Pc)(t:List Pc)(hl:(p::t).length<=1000000):aJ S 161 [.one (.p (.sl (dB (p::t))))] (.one (aO kQ 7 (dB (p::t)))):=by
 have hs:=aq2 (p::t);have hr:(0+(dB (p::t)).length)*56<=room:=by unfold room;rw[cG];omega
 refine bc c161 ?_;obtain⟨e0,es,hq⟩:∃e0 es,dB (p::t)=e0::es:=⟨_,_,rfl⟩;rw[hq] at hs hr ⊢;have aM:e0::es≠[]:=af;have sV:aO kQ 7 (e0::es)=.own kQ 7 (e0::es):=aD aM;rw[sV];unfold room at hr;simp only[jt,dp] at hr;simp only[eC,qM] at hs;simp only[go_sem,i161,eO,eC];simp only[hs,hr,not_true_eq_false,if_true,if_false];simp only[go_sem];exact Fa rC rfl
def qe(g ab b:Int)(p:Pc):Pc:=if (p.l.kind==1)&&((p.l.gate==g)&&decide (ab<p.l.aw)) then {p with l:={p.l with aw:=p.l.aw+b}} else p
abbrev iO(l:List Pc)(g ab b:Int):List Pc:=l.map (qe g ab b)
def aew(id:Nat)(es:List (List PV))(c:C)(aj:aA)(v:V)(ao:aA):Prop:=v=.tup []/\grown id kQ 7 es (.one c) ao/\Kept (· =id) aj ao
theorem apD{al:Al}{aj:aA}{id:Nat}{l:List Pc}{c:C}{g ab b:Int}(o:l=[]\/al.ok id=true)(hl:l.length<=1000000)(hb: -100<=b/\b<=100)(hr:∀p∈l,-1000000<=p.l.aw/\p.l.aw<=1000000)(h:grown id kQ 7 (dB l) (.one c) aj):
  ∃v ao,iA S 159 [.one c,vi g,vi ab,vi b] al aj v ao/\aew id (dB (iO l g ab b)) c aj v ao:=by
 refine mz c159 (gj rfl) ?_;rcases h with ⟨h1,h2⟩|⟨aM,gg,h2,hC⟩
 .cases h2;have sY:l=[]:=by simpa using h1
  subst sY;have hz:¬(((0:Nat):Int)<((0:Nat):Int)):=aa;simp only[go_sem,i159];refine cS (fun k ak ao=>k=0/\ak 10=vi ((0:Nat):Int)/\ak 11=vi ((0:Nat):Int)/\ao=aj) 0 0 (cA _) ?_ ?_
  .simp only[go_sem];exact rfl
  rintro k ak ao _ ⟨rfl,dC,jL,rfl⟩
  simp only[go_sem,i159_l1,dC,jL,hz];exact⟨rfl,.inl ⟨rfl,rfl⟩,fun _ _=>rfl⟩
 cases h2;have o:=o.resolve_left (by simpa using aM);simp only[go_sem,i159];refine cS (fun k ak ao=>ak 0=.one (.hsl id gg 7 0 l.length)/\ak 1=vi g/\ak 2=vi ab/\ak 3=vi b/\ak 10=vi l.length/\ak 11=vi k/\ao id=(gg,some (.arr kQ 7 (dB ((iO (l.take k) g ab b)++l.drop k))))/\Kept (· =id) aj ao) 0 l.length (bn _) ?_ ?_
 .simp only[go_sem,hC];refine⟨?_,?_⟩
  .simp[]
  exact Kept.refl _ _
 rintro k ak ao hk ⟨h0,h1,h2,h3,dC,jL,hF,cT⟩
 by_cases au:k<l.length
 .have aL:((k:Int)<(l.length:Int)):=aa;obtain⟨p,hp⟩:=aN au;have w1:=bQ (n:=k) aa;obtain⟨r1,r2⟩:=hr p (aW hp);have wr:=nT (x:=p.l.aw+b) aa aa;have A2:l.drop k=p::l.drop (k+1):=by
   obtain⟨hh,rfl⟩:=aY.1 hp;exact Pt hh
  have hlen:((iO (l.take k) g ab b)++l.drop k).length=l.length:=by simp[iO];omega
  have jz:((iO (l.take k) g ab b)++l.drop k)[k]?=some p:=by
   rw[vz (by simp[iO];omega)];have:k-(iO (l.take k) g ab b).length=0:=by simp[iO];omega
   rw[this,A2];rfl
  have jl:((iO (l.take k) g ab b)++l.drop k).set k (qe g ab b p)=(iO (l.take (k+1)) g ab b)++l.drop (k+1):=by
   have e1:(iO (l.take k) g ab b).length=k:=by simp[iO];omega
   rw[Wp _ _ aa,e1,FI,A2,afP,iw,hp];simp[iO]
  have fg:=iZ jz;have CH:dB (((iO (l.take k) g ab b)++l.drop k).set k (qe g ab b p))=(dB ((iO (l.take k) g ab b)++l.drop k)).set k (qe g ab b p).ps:=by simp[dB,zX]
  rw[jl] at CH;have zi:qe g ab b p=p->dB ((iO (l.take k) g ab b)++l.drop k)=dB ((iO (l.take (k+1)) g ab b)++l.drop (k+1)):=fun e=>by rw[CH,e];obtain⟨hh,he⟩:=aY.1 fg;rw[<- he,Wq]
  generalize (iO (l.take k) g ab b)++l.drop k=m at hF jz fg CH zi hlen;have u9:k<(dB m).length:=by rw[cG];omega
  cases c1:(p.l.kind==1) with
  |false=>have e:=zi (by unfold qe;rw[c1];rfl);simp only[go_sem,i159_l1,h0,h1,h2,h3,dC,jL,hF,fg,Pc.ps,au,aL,c1,w1,o];exact⟨by rw[e],cT⟩
  |true=>
   cases c2:(p.l.gate==g) with
   |false=>have e:=zi (by unfold qe;rw[c1,c2];rfl);simp only[go_sem,i159_l1,h0,h1,h2,h3,dC,jL,hF,fg,Pc.ps,au,aL,c1,c2,w1,o];exact⟨by rw[e],cT⟩
   |true=>
    by_cases c3:ab<p.l.aw
    .have e:(qe g ab b p).ps=[.int .i64 p.l.kind,.int .i64 p.l.gate,.int .i64 (p.l.aw+b),.int .i64 p.l.id,.int .i64 p.l.sign,.bool p.l.over,.bool p.d]:=by unfold qe;rw[c1,c2,BP c3];rfl
     rw[e] at CH;simp only[go_sem,i159_l1,h0,h1,h2,h3,dC,jL,hF,fg,Pc.ps,au,aL,c1,c2,c3,w1,wr,o];refine⟨?_,?_⟩
     .first|rw[CH]|(rw[CH];rfl)
     exact cT.df rfl _
    have e:=zi (by unfold qe;rw[c1,c2,DG c3];rfl);simp only[go_sem,i159_l1,h0,h1,h2,h3,dC,jL,hF,fg,Pc.ps,au,aL,c1,c2,c3,w1,o];exact⟨by rw[e],cT⟩
 have:k=l.length:=aa;subst this;simp only[go_sem,i159_l1,dC,jL,dI];refine⟨rfl,?_,cT⟩;rw[jf,List.drop_length,qh] at hF;exact .inr ⟨by simpa using aM,gg,by simp[iO],hF⟩
def Dj(p:Pc):Bool:=(p.l.kind==1)&&p.d
def Lr(l:List Pc)(i:Nat):Bool:=match l[i]? with|some p=>Dj p|none=>false
theorem U2{l:List Pc}{i:Nat}{p:Pc}(h:l[i]?=some p):Lr l i=Dj p:=by simp[Lr,h]
def qw(l:List Pc):Option Nat:=(List.range l.length).find? (Lr l)
theorem aiA(p:Pc):aJ S 140 [.agg (p.ps.map .p)] (rb (Dj p)):=by
 refine bc c140 ?_;unfold Dj;cases h:(p.l.kind==1) with
 |true=>simp only[go_sem,i140,Pc.ps,h]
 |false=>simp only[go_sem,i140,Pc.ps,h]
theorem alK(l:List Pc)(hl:l.length<=1000000):aJ S 139 [.one (.p (.sl (dB l))),.one (.p (.fn 140 [] []))] (ri (match qw l with|some k=>(k:Int)|none=> -1)):=by
 refine bc c139 ?_;simp only[go_sem,i139];refine cS (fun k ak aj=>ak 0=.one (.p (.sl (dB l)))/\ak 1=.one (.p (.fn 140 [] []))/\ak 7=vi l.length/\ak 8=vi k/\ ∀j,j<k->Lr l j=false) 0 l.length (bn _) ?_ ?_
 .simp only[go_sem];exact⟨rfl,fun j hj=>absurd hj (mv j)⟩
 rintro k ak aj hk ⟨h0,h1,h7,h8,hn⟩
 by_cases au:k<l.length
 .have aL:((k:Int)<(l.length:Int)):=aa;obtain⟨p,hp⟩:=aN au;have fg:=iZ hp;have w1:=bQ (n:=k) aa;have pd:=aiA p;have pP:=U2 hp;cases hb:Dj p with
  |true=>rw[hb] at pd pP;have hf:qw l=some k:=AO au hn pP;simp only[Pc.ps,eE,kZ] at pd;simp only[go_sem,i139_l1,h0,h1,h7,h8,aL,fg,Pc.ps,s140,cq pd,hf]
  |false=>
   rw[hb] at pd pP;simp only[Pc.ps,eE,kZ] at pd;simp only[go_sem,i139_l1,h0,h1,h7,h8,au,aL,fg,Pc.ps,s140,cq pd,w1];intro j hj;rcases kB.1 hj with h|rfl
   .exact hn j h
   exact pP
 have:k=l.length:=aa;subst this;have hf:qw l=none:=Gu hn;simp only[go_sem,i139_l1,i139_r2,h7,h8,dI,hf]
abbrev fU:Nat:=38
def qc(l:List Pc)(ajO k:Nat):List Let:=(List.range k).map fun i=>(l.getD ((ajO+i)%l.length) ⟨iM,false⟩).l
theorem apd{l:List Pc}{f k:Nat}{p:Pc}(h:l[(f+k)%l.length]?=some p):qc l f (k+1)=qc l f k++[p.l]:=by simp[qc,rH,cU,h]
def kK(l:List Pc):List Let:=qc l ((qw l).getD 0) l.length
abbrev cM(o:List Let):List (List PV):=o.map Let.ps
theorem GG{s1 t1 z1:Nat}{es:List (List PV)}{c:C}{x:PV}{aj:aA}(h:grown s1 t1 z1 es (.one c) aj):fv aj (.agg [.p x,c])=some (.agg [.p x,aO t1 z1 es]):=by obtain⟨c',o,hc,h2,h3⟩:=h.fm;cases hc;rcases h3 with rfl|rfl<;>simp[fv,ll,jx,iY,h2,(show Go.Abs.fm aj (.p x)=some (.p x,[],[]) from rfl),apart,oQ,mq]
theorem ajx(F:Nat)(l:List Pc)(hl:l.length<=1000000)(x1 x2 x3 x4 x5 x6:PV):aJ S 114 [.one (.p (.box [.int .i64 F,x1,x2,x3,x4,x5,x6])),.one (.p (.sl (dB l)))] (.agg [.p (.int .i64 F),aO fU 6 (cM (kK l))]):=by
 have px:=alK l hl;have hfd:∃f,(qw l).getD 0=f/\(l≠[]->f<l.length):=by
  refine⟨_,rfl,fun aM=>?_⟩;cases h:qw l with
  |none=>exact kY.2 aM
  |some k=>exact fJ.1 (IT h)
 obtain⟨f,hf,tU⟩:=hfd;have qE:((qw l=none/\f=0)\/qw l=some f):=by
  cases h:qw l with
  |none=>rw[h] at hf;exact .inl ⟨rfl,hf.symm⟩
  |some k=>rw[h] at hf;exact .inr (congrArg some hf)
 unfold kK;rw[hf];have main:∀(ak:Env) (aj:aA),ak 1=.one (.p (.sl (dB l)))->ak 4=.one (.ba 7296000000 1 0)->ak 5=.one (.ba 7296064320 1 0)->ak 6=vi f->ak 17=vi l.length->ak 18=vi ((0:Nat):Int)->aj 7296000000=(1,some (.var [.p (.int .i64 0),.p .nils]))->aj 7296064320=(1,some (.var [.p (.int .i64 F),.p .nils]))->
   W S .all (.loop i114_l1) (pF 0 (wU S .all i114_r2 (qT .all [(4,some (some 2))] fun v aj=>fv aj v=some (.agg [.p (.int .i64 F),aO fU 6 (cM (qc l f l.length))])))) ak aj:=by
  intro ak aj e1 e4 e5 e6 e17 e18 b0 bO;refine cS (fun k ak aj=>ak 1=.one (.p (.sl (dB l)))/\ak 4=.one (.ba 7296000000 1 0)/\ak 5=.one (.ba 7296064320 1 0)/\ak 6=vi f/\ak 17=vi l.length/\ak 18=vi k/\aj 7296000000=(1,some (.var [.p (.int .i64 0),.p .nils]))/\ ∃c,aj 7296064320=(1,some (.var [.p (.int .i64 F),c]))/\grown 7296384832 fU 6 (cM (qc l f k)) (.one c) aj) 0 l.length (bn _) ⟨e1,e4,e5,e6,e17,e18,b0,.p .nils,bO,.inl ⟨rfl,rfl⟩⟩ ?_;rintro k ak aj hk ⟨h1,h4,h5,h6,tP,qy,b0,c,bO,gc⟩
  by_cases au:k<l.length
  .have aL:((k:Int)<(l.length:Int)):=aa;have aM:l≠[]:=kY.1 aa;have tU:=tU aM;have w1:=bQ (n:=k) aa;have w2:=wrap_add (a:=f) (b:=k) aa;have e2:=qK (f+k) l.length;have hm:=dK (f+k) (show 0<l.length by omega);obtain⟨p,hp⟩:=aN hm;have fg:=iZ hp;have hz:¬((l.length:Int)=0):=aa;have hr:=apd hp;have hle:(qc l f k).length=k:=by simp[qc]
   simp only[go_sem,i114_l1,h1,h5,h6,tP,qy,bO,aL,w2,e2,hz,fg,Pc.ps];refine tJ (site:=7296384832) (id:=7296384832) (bytes:=48) (xs:=[p.l.ps]) (rd:=[7296384768]) (gc.of_eq (aT ae)) (by simp[eN,aS,Let.ps]) (.inl rfl) (by simp only[cG,hle,dp,eP];omega) fun c' bt r u hc hb hru=>?_;have bO1:=(hb 7296064320 ae ae).trans ((aT ae).trans bO);have b01:=(hb 7296000000 ae ae).trans ((aT ae).trans b0);simp only[go_sem,h1,h4,h5,h6,tP,qy,bO1,b01,au,w1];refine⟨?_,c',rfl,?_⟩
   .rcases hru with ⟨rfl,rfl⟩|⟨rfl,rfl⟩|⟨rfl,rfl⟩<;>kernel_rfl
   rw[hr,cM,km];exact hc.of_eq (aT ae)
  have:k=l.length:=aa;subst this;simp only[go_sem,i114_l1,i114_r2,h4,h5,tP,qy,bO,b0,dI];exact GG (gc.of_eq (aT ae))
 refine bc c114 ?_;rcases qE with ⟨hn,rfl⟩|hs
 .rw[hn] at px;have KG:¬((0:Int)< -1):=ae;simp only[go_sem,i114,s139,dJ px];exact main _ _ (by simp only[go_sem]) (by simp only[go_sem]) (by simp only[go_sem]) (by simp only[go_sem];rfl) (by simp only[go_sem]) (by simp only[go_sem];rfl) (by simp only[go_sem]) (by simp only[go_sem])
 rw[hs] at px;simp only[go_sem,i114,s139,dJ px];exact main _ _ (by simp only[go_sem]) (by simp only[go_sem]) (by simp only[go_sem]) (by simp only[go_sem];split<;>(first|rfl|(congr 1;simp;omega))) (by simp only[go_sem]) (by simp only[go_sem];rfl) (by simp only[go_sem]) (by simp only[go_sem])
theorem al7:aJ S 112 [] (.agg [.p .wN,.p (.fn 130 [] []),.p (.fn 131 [] []),.p (.fn 132 [] []),.p (.fn 133 [] []),.p (.fn 134 [] []),.p (.fn 135 [] []),.p (.fn 136 [] []),.p (.fn 137 [] []),.p (.fn 138 [] []),.p (.fn 138 [] [])]):=by refine bc c112 ?_;simp only[go_sem,i112];rfl
def kx(k:Int):Int×Int:=if k=2 then (2,0) else if k=5 then (2,1) else if k=7 then (4,2) else (0,0)
theorem akf(k:Int):aJ S 113 [vi k] (.tup [.one (.p (.int .i64 (kx k).1)),.one (.p (.int .i64 (kx k).2))]):=by
 refine bc c113 ?_;unfold kx;by_cases h2:k=2
 .subst h2;simp only[go_sem,i113];rfl
 by_cases h5:k=5
 .subst h5;simp only[go_sem,i113];rfl
 by_cases h7:k=7
 .subst h7;simp only[go_sem,i113];rfl
 rw[aD h2,aD h5,aD h7];have e2:(k==2)=false:=by simpa using h2
 have e5:(k==5)=false:=by simpa using h5
 have e7:(k==7)=false:=by simpa using h7
 simp only[go_sem,i113,e2,e5,e7];rfl
theorem XE{l:List Pc}(aM:l≠[])(hl:l.length<=1000000):aJ S 161 [.one (.p (.sl (dB l)))] (.one (aO kQ 7 (dB l))):=by
 cases l with
 |nil=>exact absurd rfl aM
 |cons p t=>exact ahX p t hl
section
variable {Q:dS} {ak:Env} {aj:aA} {os:List bR} {d:Option Nat}
theorem aal{id:Nat}{l:List Pc}{c:C}{g ab b:Int}(hl:l.length<=1000000)(hb: -100<=b/\b<=100)(hr:∀p∈l,-1000000<=p.l.aw/\p.l.aw<=1000000)(hg:grown id kQ 7 (dB l) (.one c) aj)
  (hK:∀ao,grown id kQ 7 (dB (iO l g ab b)) (.one c) ao->(∀i,i≠id->ao i=aj i)->RN S .all os Q (put ak d (.tup [])) ao):gP S .all (.sc 159 [.one c,vi g,vi ab,vi b]) d os Q ak aj:=by
 have ho:l=[]\/(allow (S.ctx .all) 159 [.one c,vi g,vi ab,vi b] aj).ok id=true:=by
  rcases Vj hg with ⟨h,_⟩|h
  .exact .inl (by simpa using h)
  exact .inr (xl (by simp[h]))
 refine rV (P:=aew id (dB (iO l g ab b)) c aj) wB (apD ho hl hb hr hg) ?_;rintro v ao ⟨rfl,h1,h2⟩
 exact hK ao h1 h2
end
theorem amr(fs:List Fc):∀(j:Nat) (L:List Nat),∀v∈oL fs j L,v∈L\/v<j+fs.length:=by
 have jl:∀(ds:List Nat) (L:List Nat) (x:Nat),∀v∈mW L ds x,v∈L\/v=x:=by
  intro ds
  induction ds with
  |nil=>intro L x v h;exact .inl h
  |cons d ds ih=>
   intro L x v h;rcases ih (L.set d x) x v h with h|h
   .rcases PA h with h|h
    .exact .inl h
    exact .inr h
   exact .inr h
 induction fs with
 |nil=>intro j L v h;exact .inl h
 |cons f r ih=>
  intro j L v h;rcases ih (j+1) (mW L f.bj j) v h with h|h
  .rcases jl _ _ _ v h with h|h
   .exact .inl h
   subst h;exact .inr af
  exact .inr (by simp only[dp];omega)
def Lj:Fc:=⟨false,[],[],[],false⟩
def jJ(F:Nat)(ls:List Let)(d:Nat):Fc:=(de F ls).getD ((mS F ls).getD d 0) Lj
theorem Ut(F:Nat)(ls:List Let):(mS F ls).length=2*ls.length:=by simp[mS,NW]
theorem S4(g:bK F ls){d:Nat}(hd:d<2*ls.length):∃j,(mS F ls)[d]?=some j/\(de F ls)[j]?=some (jJ F ls d)/\j<(de F ls).length:=by
 obtain⟨j,hj⟩:=aN (ls:=mS F ls) (k:=d) (by rw[Ut];exact hd);have hn:0<(de F ls).length:=by rw[S6,g.nw];omega
 have mI:j<(de F ls).length:=by
  rcases amr (de F ls) 0 _ j (aW hj) with h|h
  .have:=Pu h;omega
  omega
 refine⟨j,hj,?_,mI⟩;obtain⟨f,hf⟩:=aN mI;unfold jJ;rw[cU (l:=mS F ls),hj,kE,cU,hf];rfl
def ac2(b:Nat)(r:Int)(d:Bool):Pc:=⟨⟨1,b,r,0,0,false⟩,d⟩
def Mr(ls:List Let)(av b c:Nat)(f:Fc)(side:Bool):List Pc:=CV (iO (pieces ls) b c 2) [ac2 b (if f.eI !=side then ((c+2:Nat):Int) else ((c+1:Nat):Int)) f.eI,ac2 b (if f.eI !=side then ((c+1:Nat):Int) else ((c+2:Nat):Int)) (!f.eI)] av
def amR(F:Nat)(ls:List Let)(av b c:Nat):Option (List Pc):=
 if (b,c)∈(jJ F ls (2*av)).places then some (Mr ls av b c (jJ F ls (2*av)) false)
 else if (b,c)∈(jJ F ls (2*av+1)).places then some (Mr ls av b c (jJ F ls (2*av+1)) true) else none
def kR (o:Option (List Pc)):RV:=.tup [.one (aO kQ 7 (dB (o.getD []))),.one (.p (.bool o.isSome))]
theorem Vh(g:bK F ls):∀p∈pieces ls,-1000000<=p.l.aw/\p.l.aw<=1000000:=by
 intro p hp;obtain⟨i,hi⟩:=gH hp;have ny:i<ls.length:=by rw[<- fG];exact(aY.1 hi).1
 obtain⟨l,hl⟩:=aN ny;rw[kS hl] at hi;cases hi;rcases g.ok.kinds l (aW hl) with h|h
 .have hg:=g.ok.ax.eJ l (aW hl) h;have:=hg.r0;have:=hg.r1;have hc:cg ls l.gate.toNat<=ls.length:=qt _ _;have:=g.len;simp only;omega
 have:=(Od (f:=F) h).1 (g.bad l (aW hl));simp only[this.1.2];omega
def lmR(ls:List Let)(av:Nat)(sg:Int)(o:Bool):List Pc:=CV (pieces ls) [⟨⟨2,0,0,((ay Let.aB ls/2+1:Nat):Int),sg,o⟩,false⟩,⟨⟨2,0,0,((ay Let.aB ls/2+1:Nat):Int),sg,!o⟩,false⟩] av
def iv(n:Nat)(i:Int):Bool:=decide (0<=i)&&decide (i<(n:Int))
theorem is_p(i:Int)(n:Nat):aJ S 129 [vi i,.one (.p (.box [.int .i64 n]))] (rb (iv n i)):=by
 refine bc c129 ?_;unfold iv;by_cases h1:0<=i
 .by_cases h2:i<(n:Int)
  .simp only[go_sem,i129,h1,h2]
  simp only[go_sem,i129,h1,h2]
 simp only[go_sem,i129,h1]
theorem zN(l:List Let):((cM l).all fun e=>e.all PV.scalar)=true:=by simp[Let.ps,PV.scalar]
abbrev kA(F:Nat)(L:List Let):RV:=.tup [.agg [.p (.int .i64 F),aO fU 6 (cM L)],.one (.p (.int .i64 0))]
def xC(F:Nat)(ls:List Let)(k:Int):Option (List Pc)->RV
 |none=>pZ 4
 |some L=>if (400:Int)<(ls.length:Int)+(kx k).1\/(100:Int)<((ay Let.aB ls/2:Nat):Int)+(kx k).2 then pZ 7 else kA F (kK L)
section
variable {h:Nat}
end
section
variable {h:Nat}
end
theorem aju(L:List Pc):(kK L).length=L.length:=by simp[kK,qc]
theorem NM(l x:List Pc)(k:Nat):(CV l x k).length=l.length+x.length:=by simp only[CV,fH,iF,tx];omega
end
end Go.Abs
